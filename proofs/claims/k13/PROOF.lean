import PyProof.Rows.All
import Wide.All
import OpenK.AllK
import Wide.FinOn
import HandS.ForMost
import HandS.Wide
import HandS.Style
import HandS.SortInts
import HandS.IsInst
import HandS.Evl
import HandS.Walk
import HandS.ForExc
import HandS.ExcInit
import HandS.ExcField
import HandS.ExcSuper
import HandS.Nested
import KE.KExcSuper
import HandS.Zip
import HandS.Sort
import PyProof.ReprRoads
import HandS.DictTup
import HandS.Set
import HandS.Dict
import HandS.DictComp
import HandS.NoneIn
import HandS.Conv
import HandS.OwnEq
import HandS.Property
import KE.SortKeyed
import HandS.SortOrd
import KE.SortKeyHeap
import HandS.Lambda
import HandS.EndTab
import HandS.SetFor
import HandS.Strs
import HandS.Star
import KE.SortData
import KE.GoesEnum
import HandS.TupSets
import PySem.Challenge.RW_listwindow_k13_orders_barred_by_spots
set_option Elab.async false
set_option linter.all false
set_option maxRecDepth 100000
set_option maxHeartbeats 4000000
/-! My own rules over the hand layer: calls by keywords alone, powers of great ints, what a heap keeps. -/
namespace My
open PySem PySem.Spec PyProof.Rows L2
/-! ### calls by keywords -/
def kg (n m : Nat) (π : List Nat) {α : Type} (us ws : List α) : List α := if us.length = n ∧ ws.length = m then π.filterMap (fun i => (us ++ ws)[i]?) else []
theorem vals_pick {xs : List V} {us : List Value} (r : Vals xs us) : ∀ (π : List Nat), Vals (π.filterMap (fun i => xs[i]?)) (π.filterMap (fun i => us[i]?))
  | [] => .nil
  | i :: π => by
    have ih := vals_pick r π
    cases e : xs[i]? with
    | none =>
      rw [List.filterMap_cons, e, List.filterMap_cons, r.none_of e]
      exact ih
    | some x =>
      obtain ⟨u, h1, h2⟩ := r.get e
      rw [List.filterMap_cons, e, List.filterMap_cons, h1]
      exact .cons h2 ih
theorem kg_rel {n m : Nat} {π : List Nat} {vs zs : List V} {us ws : List Value} (r : Vals vs us) (rz : Vals zs ws) : Vals (kg n m π vs zs) (kg n m π us ws) := by
  unfold kg
  rw [r.length, rz.length]
  split
  · exact vals_pick (r.append rz) π
  · exact .nil
theorem kbinds {K : PySem.W.Frag} {x qual : Str} {st : Stmt} {f : Addr} {fd : FuncData} {ps ks : List Str} (n m : Nat) (π : List Nat) (F : Fun K x qual st f fd) (hp : 0 < ps.length)
    (h : ∀ (kV doc pm : Value) (an : Option Addr) (cdv ct : Value) (us ws : List Value), us.length = n → ws.length = m → bindArgs (PySem.W.fnOf x qual (defArgs st) (defBody st) (defScope st) .none kV doc pm an cdv ct) ⟨us, ks.zip ws⟩ = pure (ps.zip (kg n m π us ws))) : KBinds K fd ps ks (kg n m π) (kg n m π) := by
  obtain ⟨oc, od, kV, doc, pm, an, cdv, ct, osl, rfl, lk, hcd⟩ := F.ex
  refine ⟨fun s us ws _ hl => ?_, fun r rz => kg_rel r rz⟩
  by_cases z : us.length = n ∧ ws.length = m
  · exact .of_eq (h kV doc pm an cdv ct us ws z.1 z.2)
  · unfold kg at hl
    rw [if_neg z] at hl
    rw [← hl] at hp
    exact absurd hp (Nat.lt_irrefl _)
section
variable {X : Cx} {CX : CXT} {k : Nat} {f C : Addr} {fd : FuncData} {ps ks : List Str} {sp : Sp} {E : XK} {x m : Str} {p pos apos kpos : Pos} {kws : List Keyword} {tk : TA} {g : List Value → List Value → List Value} {gV : List V → List V → List V}
/-- f(k = v, ..) -/
theorem pe_callK0 (F : FnOk X.prog X.w X.K X.mg X.base CX k f fd ps sp) (hr : Room k X.A) (hg : Gl X x) (hm : X.mg x = some (.ref f)) (hk : PySem.W.keepIn X.K (.ref f) = true) (hb : KBinds X.K fd ps ks g gV) (hx : Passes CX X E)
    (hkw : PK X kws tk) (hall : (backToKw pos (keywordEach kws X.env)).all (·.1.isSome) = true := by rfl) (hks : (backToKw pos (keywordEach kws X.env)).filterMap (·.1) = ks := by rfl)
    (hdb : (x == ("__debug__" : Str)) = false := by decide)
    (hpl : ((backTo pos (starEach [] X.env)).any (·.1) || (backToKw pos (keywordEach kws X.env)).any (·.1.isNone)) = false := by rfl) :
    PE X (.Call (.Name x p) [] kws pos) (tCallK sp gV E tNil tk) := by
  refine ⟨fun pins s σ H Q I h => ?_⟩
  refine wpAny_Call_Name_kw (ld_glob I hg hm ?_ hdb)
  refine PySem.W.callWith_KW0 (h₀ := X.base) I.ok.mod.kin hk hall ?_ hpl
  refine thn (hkw.run pos pins s σ H _ I h) fun ws s2 ⟨zs, H2, I2, rz, q2⟩ => ⟨I2.kIn, ?_⟩
  rw [hks]
  exact run_fnk (us := []) (vs := []) F hr hb hx I2 .nil rz q2
end
/-! ### powers of great ints -/
/-- a power of together at most 2 ^ 27 bits -/
def CPowW (i j : Int) : Prop := 0 ≤ j ∧ ((i.natAbs.log2 : Int) + 1) * j ≤ 2 ^ 27
theorem bits_le (x : Int) : (Builtin.Int.intBits x : Int) ≤ (x.natAbs.log2 : Int) + 1 := by
  unfold Builtin.Int.intBits
  split <;> omega
theorem op_powW {X : Cx} : OpR X (binaryOp .Pow) (rI CPowW fun i j => .int (i ^ j.toNat)) := opI fun i j _ _ _ _ _ hc q =>
  pow_int hc.1 (Int.le_trans (Int.mul_le_mul_of_nonneg_right (bits_le i) hc.1) hc.2) q
theorem powW_of {i : Int} {j : Nat} {a : Nat} (h : i.natAbs < 2 ^ a) (h0 : 0 < a) (hj : a * j ≤ 2 ^ 27) : CPowW i (j : Int) := by
  have := PySem.Flt.log2_lt_of h0 h
  refine ⟨Int.natCast_nonneg _, ?_⟩
  have e : ((i.natAbs.log2 : Int) + 1) * (j : Int) = (((i.natAbs.log2 + 1) * j : Nat) : Int) := by
    rw [Int.natCast_mul]
    rfl
  rw [e]
  have : (i.natAbs.log2 + 1) * j ≤ a * j := Nat.mul_le_mul_right _ this
  have : (i.natAbs.log2 + 1) * j ≤ 2 ^ 27 := Nat.le_trans this hj
  omega
/-! ### heaps -/
abbrev Ex := Evl.Ex
/-- all but the object at j is as it was -/
def Exj (j : Addr) (H H' : Hp) : Prop := ∀ b o, b ≠ j → H b = some o → H' b = some o
theorem Exj.refl (j : Addr) (H : Hp) : Exj j H H := fun _ _ _ h => h
theorem Exj.trans {j : Addr} {H H1 H2 : Hp} (a : Exj j H H1) (b : Exj j H1 H2) : Exj j H H2 := fun x o n h => b x o n (a x o n h)
theorem Exj.of {j : Addr} {H H' : Hp} (a : Ex H H') : Exj j H H' := fun x o _ h => a x o h
theorem Exj.upd {j : Addr} {H H' : Hp} {o : HO} (a : Exj j H H') : Exj j H (upd H' j o) := fun x u n h => by
  rw [upd_ne n]
  exact a x u n h
theorem Exj.new {j p : Addr} {H H' : Hp} {o : HO} (a : Exj j H H') (h : H' p = none) : Exj j H (L2.upd H' p o) := fun x u n e => by
  have := a x u n e
  rw [upd_ne (ne_of_none this h)]
  exact this
theorem Exj.sq {K : PySem.W.Frag} {j : Addr} {H H' : Hp} {a : Addr} {xs : List V} (e : Exj j H H') (n : a ≠ j) (h : SqL K H a xs) : SqL K H' a xs := by
  rcases h with (h | ⟨o, h⟩) | h
  · exact .inl (.inl (e _ _ n h))
  · exact .inl (.inr ⟨o, e _ _ n h⟩)
  · exact .inr h
/-- a new object, its heap by name -/
theorem newO {H : Hp} {o : HO} {P : V → Hp → Prop} (k : ∀ p H', H p = none → Ex H H' → H' p = some o → P (.ref p) H') : ∀ p, H p = none → P (.ref p) (L2.upd H p o) := fun p hp => k p _ hp (Evl.Ex.new hp) upd_same
theorem sqI {K : PySem.W.Frag} {H : Hp} {a : Addr} {xs : List V} (h : H a = some (.lst xs)) : SqL K H a xs := .inl (.inl h)
theorem sqT {K : PySem.W.Frag} {H : Hp} {a : Addr} {xs : List V} (h : H a = some (.tup xs)) : SqT K H a xs := .inl (.inl h)
/-! ### data: how a thing of Lean stands in the heap -/
/-- a way of writing things as data: it can be laid, it is no deeper than n, equal data are equal things -/
structure Good {α : Type} [DecidableEq α] (e : α → PyData) (n : Nat) : Prop where
  lay : ∀ x, (e x).canLay0 = true
  dep : ∀ x, (e x).depth ≤ n
  eqv : ∀ x y, PyData.eqv (e x) (e y) = decide (x = y)
def eL {α : Type} (e : α → PyData) (xs : List α) : PyData := .list (xs.map e)
def eT {α : Type} (e : α → PyData) (xs : List α) : PyData := .tuple (xs.map e)
def eP {α β : Type} (e : α → PyData) (f : β → PyData) (p : α × β) : PyData := .tuple [e p.1, f p.2]
theorem goodI : Good PyData.int 0 := ⟨fun _ => rfl, fun _ => Nat.le_refl _, fun x y => by
  show (x == y) = _
  rw [Bool.eq_iff_iff]
  simp⟩
theorem goodB : Good PyData.bool 0 := ⟨fun _ => rfl, fun _ => Nat.le_refl _, fun x y => by
  show (x == y) = _
  rw [Bool.eq_iff_iff]
  simp⟩
section
variable {α β : Type} [DecidableEq α] [DecidableEq β] {e : α → PyData} {f : β → PyData} {n m : Nat}
theorem Good.layAll (g : Good e n) : ∀ xs : List α, PyData.canLayAll0 (xs.map e) = true
  | [] => rfl
  | x :: xs => by
    show (PyData.canLay0 (e x) && PyData.canLayAll0 (xs.map e)) = true
    rw [g.layAll xs, g.lay x]
    rfl
theorem Good.depAll (g : Good e n) : ∀ xs : List α, PyData.depthAll (xs.map e) ≤ n
  | [] => Nat.zero_le _
  | x :: xs => by
    show max (PyData.depth (e x)) (PyData.depthAll (xs.map e)) ≤ n
    exact Nat.max_le.mpr ⟨g.dep x, g.depAll xs⟩
theorem Good.eqvAll (g : Good e n) : ∀ xs ys : List α, PyData.eqvAll (xs.map e) (ys.map e) = decide (xs = ys)
  | [], [] => rfl
  | [], _ :: _ => rfl
  | _ :: _, [] => rfl
  | x :: xs, y :: ys => by
    show (PyData.eqv (e x) (e y) && PyData.eqvAll (xs.map e) (ys.map e)) = _
    rw [g.eqvAll xs ys, g.eqv, Bool.eq_iff_iff]
    simp
theorem goodL (g : Good e n) : Good (eL e) (n + 1) := ⟨fun xs => g.layAll xs, fun xs => by
  show PyData.depthAll (xs.map e) + 1 ≤ n + 1
  have := g.depAll xs
  omega, fun xs ys => g.eqvAll xs ys⟩
theorem goodT (g : Good e n) : Good (eT e) (n + 1) := ⟨fun xs => g.layAll xs, fun xs => by
  show PyData.depthAll (xs.map e) + 1 ≤ n + 1
  have := g.depAll xs
  omega, fun xs ys => g.eqvAll xs ys⟩
theorem goodP (g : Good e n) (k : Good f n) : Good (eP e f) (n + 1) := ⟨fun p => by
    show (PyData.canLay0 (e p.1) && (PyData.canLay0 (f p.2) && true)) = true
    rw [g.lay, k.lay]
    rfl, fun p => by
    show max (PyData.depth (e p.1)) (max (PyData.depth (f p.2)) 0) + 1 ≤ n + 1
    have h1 := g.dep p.1
    have h2 := k.dep p.2
    have : max (PyData.depth (e p.1)) (max (PyData.depth (f p.2)) 0) ≤ n := Nat.max_le.mpr ⟨h1, Nat.max_le.mpr ⟨h2, Nat.zero_le _⟩⟩
    omega, fun p q => by
    show (PyData.eqv (e p.1) (e q.1) && (PyData.eqv (f p.2) (f q.2) && true)) = _
    rw [g.eqv, k.eqv, Bool.eq_iff_iff]
    obtain ⟨a, b⟩ := p
    obtain ⟨c, d⟩ := q
    simp⟩
theorem Good.shaped (g : Good e n) (h : n ≤ 64) (x : α) : SeqAt.shaped (e x) = true := by
  unfold SeqAt.shaped
  rw [g.lay x, decide_eq_true (Nat.le_trans (g.dep x) h)]
  rfl
/-- two things compared -/
theorem eqE {K : PySem.W.Frag} {H : Hp} {v u : V} {x y : α} {Q : VK} (g : Good e n) (hn : n ≤ 64) (h1 : Dp K H v (e x)) (h2 : Dp K H u (e y)) (q : Q (.bl (decide (x = y))) H) : rEqD K v u H Q :=
  ⟨_, _, h1, h2, g.shaped hn x, g.shaped hn y, by rw [g.eqv]; exact q⟩
theorem neE {K : PySem.W.Frag} {H : Hp} {v u : V} {x y : α} {Q : VK} (g : Good e n) (hn : n ≤ 64) (h1 : Dp K H v (e x)) (h2 : Dp K H u (e y)) (q : Q (.bl (!decide (x = y))) H) : rNeD K v u H Q :=
  ⟨_, _, h1, h2, g.shaped hn x, g.shaped hn y, by rw [g.eqv]; exact q⟩
end
theorem dpI {K : PySem.W.Frag} {H : Hp} : ∀ (ns : List Int), DpAll K H (ns.map V.int) (ns.map PyData.int)
  | [] => .nil
  | n :: ns => .cons (.int n) (dpI ns)
/-- a list of ints -/
theorem dpL {K : PySem.W.Frag} {H : Hp} {a : Addr} {ns : List Int} (h : SqL K H a (ns.map V.int)) : Dp K H (.ref a) (eL PyData.int ns) := .lst h (dpI ns)
theorem dpT {K : PySem.W.Frag} {H : Hp} {a : Addr} {ns : List Int} (h : SqT K H a (ns.map V.int)) : Dp K H (.ref a) (eT PyData.int ns) := .tup h (dpI ns)
/-- lists of ints compared -/
theorem eqI_ {K : PySem.W.Frag} {H : Hp} {a b : Addr} {xs ys : List Int} {Q : VK} (h1 : SqL K H a (xs.map V.int)) (h2 : SqL K H b (ys.map V.int)) (q : Q (.bl (decide (xs = ys))) H) : rEqD K (.ref a) (.ref b) H Q := eqE (goodL goodI) (by decide) (dpL h1) (dpL h2) q
theorem neI_ {K : PySem.W.Frag} {H : Hp} {a b : Addr} {xs ys : List Int} {Q : VK} (h1 : SqL K H a (xs.map V.int)) (h2 : SqL K H b (ys.map V.int)) (q : Q (.bl (!decide (xs = ys))) H) : rNeD K (.ref a) (.ref b) H Q := neE (goodL goodI) (by decide) (dpL h1) (dpL h2) q
/-! ### new objects, the heap behind them by a letter -/
section
variable {X : Cx} {es : List Expr} {t : TA} {pos : Pos}
theorem pe_weak {e : Expr} {t t' : TE} (h : PE X e t) (w : ∀ σ H Q, t' σ H Q → t σ H Q) : PE X e t' := ⟨fun pins s σ H Q I q => h.run pins s σ H Q I (w σ H Q q)⟩
def tCutA (t : TA) : TA := fun σ H Q => ∃ M : List V → Hp → Prop, t σ H M ∧ ∀ vs H', M vs H' → Q vs H'
theorem pa_cut (h : PA X es t) : PA X es (tCutA t) := ⟨fun pos pins s σ H Q I ⟨M, hm, hq⟩ => thn (h.run pos pins s σ H M I hm) fun us s1 ⟨xs, H1, I1, r, q⟩ => ⟨xs, H1, I1, r, hq xs H1 q⟩⟩
/-- a new thing o, at any free place of any heap that keeps H -/
def New (o : HO) (H : Hp) (Q : VK) : Prop := ∀ p H', H p = none → Ex H H' → H' p = some o → Q (.ref p) H'
theorem New.go {o : HO} {H : Hp} {Q : VK} (k : New o H Q) (p : Addr) (hp : H p = none) : Q (.ref p) (upd H p o) := k p _ hp (Evl.Ex.new hp) upd_same
def tLstG (t : TA) : TE := fun σ H Q => t σ H fun xs H1 => xs.length ≤ sizeLine ∧ New (.lst xs) H1 Q
def tTupG (t : TA) : TE := fun σ H Q => t σ H fun xs H1 => xs.length ≤ sizeLine ∧ New (.tup xs) H1 Q
theorem pe_lstG (h : PA X es t) : PE X (.List es pos) (tLstG t) := pe_weak (pe_lst (pa_cut h)) fun σ H Q q => ⟨_, q, fun _ _ z => ⟨z.1, fun p hp => z.2.go p hp⟩⟩
theorem pe_tupG {x1} (h : PA X es t) : PE X (.Tuple es x1 pos) (tTupG t) := pe_weak (pe_tup (pa_cut h)) fun σ H Q q => ⟨_, q, fun _ _ z => ⟨z.1, fun p hp => z.2.go p hp⟩⟩
def rCatG : R2 := fun x y H Q => ∃ l b xs zs, x = .ref l ∧ y = .ref b ∧ H l = some (.lst xs) ∧ H b = some (.lst zs) ∧ xs.length + zs.length ≤ sizeLine ∧ New (.lst (xs ++ zs)) H Q
theorem op_catG : OpR X (binaryOp .Add) rCatG := fun pins s σ H x y v u Q I rx ry ⟨l, b, xs, zs, h1, h2, h3, h4, h5, k⟩ => op_cat pins s σ H x y v u Q I rx ry ⟨l, b, xs, zs, h1, h2, h3, h4, h5, fun p hp => k.go p hp⟩
def rRepG : R2 := fun x y H Q => ∃ l k xs, x = .ref l ∧ y = .int k ∧ H l = some (.lst xs) ∧ -(2 ^ 63) ≤ k ∧ k < 2 ^ 63 ∧ xs.length * k.toNat ≤ sizeLine ∧ New (.lst (List.replicate k.toNat xs).flatten) H Q
theorem op_repG : OpR X (binaryOp .Mult) rRepG := fun pins s σ H x y v u Q I rx ry ⟨l, k, xs, h1, h2, h3, h4, h5, h6, z⟩ => op_rep pins s σ H x y v u Q I rx ry ⟨l, k, xs, h1, h2, h3, h4, h5, h6, fun p hp => z.go p hp⟩
def rSlG (K : PySem.W.Frag) : V → Option Int → Option Int → Hp → VK → Prop := fun x lo hi H Q => ∃ a xs, x = .ref a ∧ SqL K H a xs ∧ New (.lst (cutV xs lo hi)) H Q
theorem sl_listG : SlR X (rSlG X.K) := fun pins s σ H x v vl vu lo hi sl Q I rx hs pl pu ⟨a, xs, h1, h2, k⟩ => sl_list pins s σ H x v vl vu lo hi sl Q I rx hs pl pu ⟨a, xs, h1, h2, fun p hp => k.go p hp⟩
def rListG (K : PySem.W.Frag) : List V → Hp → VK → Prop := fun xs H Q => ∃ p ys, xs = [.ref p] ∧ (SqL K H p ys ∨ SqT K H p ys) ∧ New (.lst ys) H Q
theorem call_listG : CallR X (.type "list") (rListG X.K) := fun pins s σ H xs us Q I r ⟨p, ys, h1, h2, k⟩ => call_list_of pins s σ H xs us Q I r ⟨p, ys, h1, h2, fun p hp => k.go p hp⟩
def rTupleG (K : PySem.W.Frag) : List V → Hp → VK → Prop := fun xs H Q => ∃ p ys, xs = [.ref p] ∧ SqL K H p ys ∧ New (.tup ys) H Q
theorem call_tupleG : CallR X (.type "tuple") (rTupleG X.K) := fun pins s σ H xs us Q I r ⟨p, ys, h1, h2, k⟩ => call_tuple_of pins s σ H xs us Q I r ⟨p, ys, h1, .inl ⟨h2, fun p hp => k.go p hp⟩⟩
def rSortedG (K : PySem.W.Frag) : List V → Hp → VK → Prop := fun vs H Q => ∃ (a : Addr) (ns : List Int), vs = [V.ref a] ∧ SqL K H a (ns.map V.int) ∧ ∀ ns' : List Int, ns'.Perm ns → ns'.Pairwise (· ≤ ·) → New (.lst (ns'.map V.int)) H Q
theorem cr_sortedG : CallR X (.builtin "sorted") (rSortedG X.K) := fun pins s σ H xs us Q I r ⟨a, ns, h1, h2, k⟩ => cr_sortedI pins s σ H xs us Q I r ⟨a, ns, h1, h2, fun ns' p h3 h4 hp => (k ns' h3 h4).go p hp⟩
end
/-! ### slices -/
theorem cut_to (xs : List V) (n : Nat) : cutV xs none (some (n : Int)) = xs.take n := by
  unfold cutV
  rw [HT.sIx_none, HT.sIx_nat, List.drop_zero, Nat.sub_zero]
  by_cases h : n ≤ xs.length
  · rw [Nat.min_eq_left h]
  · rw [Nat.min_eq_right (by omega), List.take_of_length_le (Nat.le_refl _), List.take_of_length_le (by omega)]
theorem cut_from (xs : List V) (n : Nat) : cutV xs (some (n : Int)) none = xs.drop n := by
  unfold cutV
  rw [HT.sIx_none, HT.sIx_nat]
  by_cases h : n ≤ xs.length
  · rw [Nat.min_eq_left h, List.take_of_length_le (by rw [List.length_drop]; exact Nat.le_refl _)]
  · rw [Nat.min_eq_right (by omega), List.drop_eq_nil_of_le (Nat.le_refl _), List.drop_eq_nil_of_le (by omega)]
    exact List.take_nil
/-! ### ways that come together -/
section
variable {X : Cx}
def tCutE (te : TE) : TE := fun σ H Q => ∃ M : V → Hp → Prop, te σ H M ∧ ∀ v H', M v H' → Q v H'
def tCutT (tt : TT) : TT := fun σ H Q => ∃ M : Bool → Hp → Prop, tt σ H M ∧ ∀ b H', M b H' → Q b H'
def tCutS (t : TS) : TS := fun D σ H => ∃ M : L2.St → Hp → Prop, t { D with nx := M } σ H ∧ ∀ σ' H', M σ' H' → D.nx σ' H'
theorem pe_cut {e : Expr} {te : TE} (h : PE X e te) : PE X e (tCutE te) := ⟨fun pins s σ H Q I ⟨M, hm, hq⟩ => thn (h.run pins s σ H M I hm) fun v s1 ⟨x, H1, I1, r, q⟩ => ⟨x, H1, I1, r, hq x H1 q⟩⟩
theorem pt_cut {e : Expr} {tt : TT} (h : PT X e tt) : PT X e (tCutT tt) := ⟨fun pins s σ H Q I ⟨M, hm, hq⟩ => thn (h.run pins s σ H M I hm) fun b s1 ⟨H1, I1, q⟩ => ⟨H1, I1, hq b H1 q⟩⟩
theorem ps_cut {st : Stmt} {t : TS} (h : PS X st t) : PS X st (tCutS t) := by
  refine ⟨fun pins s σ H D I ⟨M, hm, hq⟩ => thn (h.run pins s σ H { D with nx := M } I hm) fun f s1 q => ?_⟩
  cases f with
  | next =>
    obtain ⟨σ', H', I', q⟩ := q
    exact ⟨σ', H', I', hq σ' H' q⟩
  | ret v => exact q
  | brk => exact q
  | cont => exact q
end
theorem ifF {c : Bool} {A B : Prop} (h : c = false) (k : B) : if c = true then A else B := by
  rw [h]
  exact iteF k
theorem ifT {c : Bool} {A B : Prop} (h : c = true) (k : A) : if c = true then A else B := by
  rw [h]
  exact iteT k
theorem ifB {c : Bool} {A B : Prop} (h1 : c = true → A) (h2 : c = false → B) : if c = true then A else B := by
  cases c with
  | true => exact iteT (h1 rfl)
  | false => exact iteF (h2 rfl)
/-! ### comprehensions without tests, the element without a trace -/
theorem lc_mapL {K : PySem.W.Frag} {a : Addr} {xs ys : List V} {j : Nat} {te : TE} {vs : List Nat} {σ : L2.St} {H1 : Hp} {D : Addr} {Qd : Hp → Prop} (hx : SqL K H1 a xs) (hD : H1 D = none) (hl : ys.length = xs.length) (hz : xs.length ≤ sizeLine)
    (hw : ∀ x, wipe ((wipe σ vs).set j (some x)) vs = wipe σ vs)
    (he : ∀ (i : Nat) x y H', Ex H1 H' → xs[i]? = some x → ys[i]? = some y → ∀ R : VK, (∀ H2, Ex H' H2 → R y H2) → te ((wipe σ vs).set j (some x)) H' R)
    (k : ∀ H', Ex H1 H' → H' D = some (.lst ys) → Qd H') :
    ∃ W : Nat → Nat → Hp → Prop, (∃ m, W 0 m (upd H1 D (.lst []))) ∧ ∀ i m H, W i m H →
      ((Itl K a).stop i H ∧ Qd H) ∨ ((Itl K a).go i H ∧ ∃ Nx : Hp → Prop, (∀ H', Nx H' → ∃ m', m' < m ∧ W (i + 1) m' H') ∧ ∀ x H', (Itl K a).yld i H x H' → gName j x (wipe σ vs) H' fun σ2 H2 => wipe σ2 vs = wipe σ vs ∧ tYes σ2 H2 fun b H3 =>
        if b = true then te σ2 H3 fun y H4 => ∃ acc, H4 D = some (.lst acc) ∧ acc.length < sizeLine ∧ Nx (upd H4 D (.lst (acc ++ [y]))) else Nx H3) := by
  refine lc_list (xs := xs) (fun i H' => Ex H1 H' ∧ H' D = some (.lst (ys.take i))) ⟨Evl.Ex.new hD, upd_same⟩ (fun i H' _ p => Evl.ex_l p.1 hx) (fun i x H' hi p => ?_) (fun H' p => k H' p.1 ?_)
  · have hi' : i < xs.length := (List.getElem?_eq_some_iff.mp hi).1
    have hy : ys[i]? = some (ys[i]'(by omega)) := List.getElem?_eq_getElem (by omega)
    refine ⟨hw x, ?_⟩
    show te ((wipe σ vs).set j (some x)) H' _
    refine he i x _ H' p.1 hi hy _ fun H2 e2 => ⟨ys.take i, e2 _ _ p.2, ?_, ?_⟩
    · rw [List.length_take]
      omega
    · refine ⟨Evl.Ex.mut (p.1.trans e2) hD, ?_⟩
      rw [upd_same, List.take_add_one, hy]
      rfl
  · have := p.2
    rw [List.take_of_length_le (by omega)] at this
    exact this
end My
set_option Elab.async false
set_option linter.all false
set_option maxRecDepth 100000
set_option maxHeartbeats 4000000
/-! Own errors whose __init__ says super().__init__("..") and keeps one field. -/
namespace My
open PySem PySem.Spec PyProof.Rows L2 NdefX
/-! ### the built-in __init__ bound to a new error, called -/
section
variable {prog : Program} {w : World} {A : Around} {E : Value → Shared → Prop} {h : Heap} {g : Array GenState} {d : Drawn} {t : Nat} {os : OsState}
variable {nm q : Str} {C N : Addr} {bs bm : List Value} {hdct : Bool} {sn : List Str} {sub : List Value} {ab : Bool} {col : Option Bool} {dd : Option Addr} {k0 k1 k2 k3 k5 : Option Value}
theorem call_mwV {u e t0 : Addr} {rest : List Value} {Q : Value → Shared → Prop}
    (hC : h.get? C = some (excClassObj nm q C N bs bm hdct sn sub ab col dd k0 k1 k2 k3 k5 "ValueError.__new__")) (he : h.get? e = some (HandSPX.excO C t0)) (hu : h.get? u = some (PySem.W.kxs_mw "ValueError.__init__" e)) (hrest : rest.length ≤ sizeLine)
    (hq : ∀ h' t1, (∀ b o, b ≠ e → h.get? b = some o → h'.get? b = some o) → h'.get? e = some (HandSPX.excO C t1) → Q .none ⟨h', g, d, t, os⟩) :
    wpAny (model prog w) A (call (.ref u) rest) Q E ⟨h, g, d, t, os⟩ := by
  refine wpAny_call (codeAny_of_tree ?_)
  show wpAny _ A.in1 (callAny (.ref u) ⟨rest, []⟩) _ _ _
  simp only [callAny]
  refine wpAny_bind (wpAny_load hu ?_)
  simp only [PySem.W.kxs_mw, show (Value.type "method-wrapper" == Value.type "method" || Value.type "method-wrapper" == Value.type "builtin_function_or_method" || Value.type "method-wrapper" == Value.type "method-wrapper") = true by decide, if_true]
  refine W.KFB.if_so (by decide) ?_
  refine wpAny_bind (ESX.check_bound F.excBase_ValueError hC he rfl ?_)
  refine wpAny_bind (wpAny_pure (wpAny_pure ?_))
  refine ⟨Code.quiet_builtin _ (by decide +kernel), codeAny_builtin F.excBase_ValueError.initEntry ?_⟩
  rw [Around.under_plainId F.excBase_ValueError.init.plain _]
  wp_walk
  refine hq _ h.objs.size (fun b o hb ho => ?_) ?_
  · rw [Heap.get?_update_other _ _ (Ne.symm hb)]
    exact Heap.get?_push_of_some _ ho
  · rw [Heap.get?_update_self _ (Heap.get?_push_of_some _ he) rfl]
    rfl
end
/-- what the written part says of the __init__ and of the class D that holds it -/
structure InitT (P : Program) (K : PySem.W.Frag) (mg : Str → Option Value) (st : Stmt) (qu : Str) (fI cc cda D : Addr) (fd : FuncData) : Prop where
  ex : ∃ (oc : Value) (od : Option Addr) (kV doc pm : Value) (an : Option Addr) (ct : Value) (osl : Array (Option Value)),
    fd = PySem.W.fnX "__init__" qu (defArgs st) (defBody st) (defScope st) [("__class__", cc)] .none kV doc pm an (.ref cda) ct ∧ K.lookup fI = some ⟨oc, od, .func fd, osl⟩
  code : PySem.W.codeIn K (.ref cda) qu = true
  cell : ∃ cl cld csl, K.lookup cc = some ⟨cl, cld, .cell (some (.ref D)), csl⟩
  file : ∃ (ccl : Value) (cdd : Option Addr) (ccs : Array (Option Value)) (vs : Array Value) (fl : Str) (tf : Tok), K.lookup cda = some ⟨ccl, cdd, .fields vs, ccs⟩ ∧ vs[2]? = some (.str fl tf) ∧ ((P.main.file : Str) == fl) = true
  cls : ∃ cdD, PySem.W.clsIn K D = some cdD
  sup : mg "super" = none
  top : (P.main.scope.names.lookup ("super" : Str)).isSome = false
  opq : PySem.W.nsIn K cStatics "thirdparty.any" = some none
/-- what it says of a class C of errors that has this __init__ -/
structure ErrC (K : PySem.W.Frag) (fI D C : Addr) : Prop where
  oex : OexC K C
  init : PySem.W.findIn K (.ref C) "__init__" = some (some (.ref fI))
  tI : PySem.W.typeIn K (.ref fI) = some (.type "function")
  nov : PySem.W.findIn K (.ref C) "value" = some none
  mro : PySem.W.mroIn K C (.ref D) = some true
  sin : PySem.W.ks_superIn K C D "__init__" = some (some (.builtin "ValueError.__init__"))
  sub : PySem.W.subIn K (.ref C) (.type "ValueError") = some true
  xf : XfC K C
/-- the first statement, super().__init__("..") -/
abbrev sSuper (p0 p1 p2 p3 p4 p5 : Pos) (x : Str) (j : Nat) : Stmt := .Expr (.Call (.Attribute (.Call (.Name "super" p0) [] [] p1) "__init__" p2) [.Constant (.str x) j p3] [] p4) p5
abbrev sKeep (p0 p1 p2 p3 : Pos) : Stmt := .Assign [.Attribute (.Name "self" p0) "value" p1] (.Name "value" p2) p3
/-- the promise: the new error at a has, behind it, its dict with the value -/
def spErr (K : PySem.W.Frag) (fI D : Addr) : Sp := fun vs H Q _ => ∃ (a C : Addr) (v : V), vs = [.ref a, v] ∧ ErrC K fI D C ∧ H a = some (exo a C none) ∧
  ∀ dx, H dx = none → dx ≠ a → Q .non (upd (upd H dx (exd dx [("value", v)])) a (exo a C (some dx)))
section
variable {P : Program} {w : World} {K : PySem.W.Frag} {mg : Str → Option Value} {base : Heap} {st : Stmt} {qu : Str} {fI cc cda D : Addr} {fd : FuncData}
theorem super_step {A : Around} {outer : List Env} {s0 : Shared} {H0 : Hp} {E0' : XK} {F : NF} {body : List Stmt} {p0 p1 p2 p3 p4 p5 : Pos} {x : Str} {j : Nat} {a C : Addr} {v : V} {H : Hp} {s : Shared} {ws : List (Option V)} {Q : Flow → Shared → Prop} {N : List Str}
    (T : InitT P K mg st qu fI cc cda D fd) (hF : F = ⟨"__init__", qu, defArgs st, defBody st, defScope st, [("__class__", cc)], cda⟩) (TC : ErrC K fI D C)
    (hks : (defScope st).names.lookup ("super" : Str) = some .globalImplicit) (hkc : (defScope st).names.lookup ("__class__" : Str) = some .free) (hka : (defScope st).names.lookup ("self" : Str) = some .local) (hk : (defScope st).kind = .function)
    (hp : ((defArgs st).posonlyargs ++ (defArgs st).args).head?.map (·.arg) = some ("self" : Str)) (hN : N[0]? = some ("self" : Str))
    {pl : Sem Bool} (hev : ∀ env : Env, eval (.Call (.Attribute (.Call (.Name "super" p0) [] [] p1) "__init__" p2) [.Constant (.str x) j p3] [] p4) env = (do
      let ov ← attributeBase (.Call (.Name "super" p0) [] [] p1) "__init__" env (eval (.Call (.Name "super" p0) [] [] p1) env)
      standAt p2.atName
      let (f, first) ← holding [ov] (getMethod ov "__init__" pl)
      callWith p4 f first (backTo p4 (starEach [.Constant (.str x) j p3] env)) []))
    (I : Inv (ncx CX0 P w K mg base N F fI A outer s0 H0 E0') [] (some (.ref a) :: some v :: ws) H s) (ha : H a = some (exo a C none))
    (h : ∀ s', Inv (ncx CX0 P w K mg base N F fI A outer s0 H0 E0') [] (some (.ref a) :: some v :: ws) H s' → Q .next s') :
    _root_.PySem.wpAt (model P w) (ncx CX0 P w K mg base N F fI A outer s0 H0 E0').A (.func body (ncx CX0 P w K mg base N F fI A outer s0 H0 E0').env) (exec (sSuper p0 p1 p2 p3 p4 p5 x j) (ncx CX0 P w K mg base N F fI A outer s0 H0 E0').env) Q (ncx CX0 P w K mg base N F fI A outer s0 H0 E0').xe s := by
  subst hF
  obtain ⟨oc, od, kV, doc, pm, an, ct, osl, efd, lk⟩ := T.ex
  obtain ⟨cl, cld, csl, hcell⟩ := T.cell
  obtain ⟨ccl, cdd, ccs, vs, fl, tf, hcode, hvs, hfile⟩ := T.file
  obtain ⟨cdD, hD⟩ := T.cls
  obtain ⟨nm, q, N', bs, bm, sn, sub, ab, col, dd, k0, k1, k2, k3, k5, hC, hbm⟩ := TC.oex.cls
  have hcl : PySem.W.clsIn K C = some { name := nm, bases := bs, mro := .ref C :: bm, ns := N', qualname := q, hasDict := true, slotNames := sn, subclasses := sub, abstract := ab, collection := col, hasDel := false } := by unfold PySem.W.clsIn; rw [hC] <;> rfl
  have KX : K.In s.heap := I.kIn
  obtain ⟨ar, har, harg⟩ : ∃ ar, ((defArgs st).posonlyargs ++ (defArgs st).args).head? = some ar ∧ ar.arg = ("self" : Str) := by
    cases e : ((defArgs st).posonlyargs ++ (defArgs st).args).head? with
    | none => rw [e] at hp; cases hp
    | some ar => rw [e] at hp; exact ⟨ar, rfl, Option.some.inj hp⟩
  obtain ⟨oD, hD1, hD2⟩ : ∃ oD, s.heap.get? D = some oD ∧ oD.data = .cls cdD := by
    unfold PySem.W.clsIn at hD
    split at hD
    · rename_i c d cd' sl ho
      cases hD
      exact ⟨_, KX _ _ ho, rfl⟩
    · cases hD
  obtain ⟨t1, hoe⟩ := exo_at I.hok ha
  -- the name self
  obtain ⟨m, hns, hl⟩ := id I.loc
  obtain ⟨u0, ru, lu⟩ := hl 0 "self" (.ref a) hN rfl (.inl hka)
  obtain rfl : u0 = Value.ref a := ru
  have hself : m "self" = some (.ref a) := by
    rcases lu with ⟨_, q⟩ | ⟨q, _⟩
    · exact q
    · have e : (defScope st).names.lookup ("self" : Str) = some .cell ∨ (defScope st).names.lookup ("self" : Str) = some .free := q
      rw [hka] at e
      rcases e with z | z <;> cases z
  obtain ⟨mb, hb1, hb2⟩ := I.mod.blt
  refine ks_wpAt_Expr_any (ks_wpAt_MethodCall ?_ (hev _)) (I.quiet) rfl
  refine ks_wpAt_super_base hks hkc (by decide) rfl (KX _ _ lk) (by rw [efd]) (ar := ar) har rfl (KX _ _ hcode) rfl hvs hfile T.top ?_
  refine PySem.W.ks_loadName_global hk hks (Calls.loadGlobal_builtin (I.mod.glob.keeps I.bk) T.sup (hb1.keeps I.bk) ((hb2 _ (by decide)).trans (by decide +kernel)) ⟨rfl, ?_⟩)
  refine wpAny_loadName_free hk hkc rfl ⟨_, KX _ _ hcell, rfl⟩ ?_
  rw [harg]
  refine wpAny_loadName_local hk hka hns hself ?_
  refine ks_wpAny_isType_cls hD1 hD2 ⟨rfl, ?_⟩
  obtain ⟨hp0, g, d, t, os⟩ := s
  refine ks_wpAny_call_super hD1 hD2 hoe rfl (fun c e => by cases e) (PySem.W.looks_mroIn KX TC.mro) (fun h1 e1 k1' => ?_)
  have I1 : Inv (ncx CX0 P w K mg base N ⟨"__init__", qu, defArgs st, defBody st, defScope st, [("__class__", cc)], cda⟩ fI A outer s0 H0 E0') [] (some (.ref a) :: some v :: ws) H ⟨h1, g, d, t, os⟩ := I.kept (h' := h1) (t' := t) k1'
  have KX1 : K.In h1 := I1.kIn
  have hoe1 := k1' _ _ hoe
  have hnaC : a ≠ C := by
    rintro rfl
    have z := KX _ _ hC
    rw [hoe] at z
    cases z
  have hI1 : PySem.W.Looks (model P w) h1 (isInstance (.ref a) (.type "ValueError")) true := (show PySem.W.InstAt h1 a _ C none from ⟨hoe1, rfl, rfl, trivial⟩).type.andThen (PySem.W.looks_subIn KX1 TC.sub)
  have hsin := TC.sin
  unfold PySem.W.ks_superIn at hsin
  rw [hcl, Option.bind_some] at hsin
  refine PySem.W.kxs_getMethod PySem.W.kxs_ValueError e1 (PySem.W.looks_opaque KX1 T.opq) (l₀ := .ref C :: bm) ?_ rfl KX1 hsin hI1 hnaC (by decide) ?_
  · exact fun A Q E s k q => wpAny_bind ((PySem.W.looks_clsIn KX1 hcl) A _ E s k (wpAny_pure q))
  have I2 : Inv (ncx CX0 P w K mg base N ⟨"__init__", qu, defArgs st, defBody st, defScope st, [("__class__", cc)], cda⟩ fI A outer s0 H0 E0') [] (some (.ref a) :: some v :: ws) H ⟨h1.push (PySem.W.kxs_mw "ValueError.__init__" a), g, d, t + 1, os⟩ := I1.kept (t' := t + 1) fun b o e => Heap.get?_push_of_some _ e
  have hu2 : (h1.push (PySem.W.kxs_mw "ValueError.__init__" a)).get? h1.objs.size = some (PySem.W.kxs_mw "ValueError.__init__" a) := Heap.get?_push_at rfl rfl
  have hoe2 : (h1.push (PySem.W.kxs_mw "ValueError.__init__" a)).get? a = _ := Heap.get?_push_of_some _ hoe1
  show wpAny _ _ (callWith p4 (.ref h1.objs.size) [] (backTo p4 (starEach [.Constant (.str x) j p3] _)) []) _ _ _
  refine PySem.W.kxs_callWith (i := "ValueError.__init__") (x := a) rfl (PySem.Calls.evalArgs_plain ?_)
  refine args_cons (Calls.Constant_str (args_nil ⟨hu2, ?_⟩)) rfl
  have I3 := I2.tok (t + 1 + 1)
  refine call_mwV (KX1.keeps (fun b o e => Heap.get?_push_of_some _ e) _ _ hC) hoe2 hu2 (by show 1 ≤ sizeLine; decide) (fun h' t' k he => ?_)
  have J := I3.write (t' := t + 1 + 1) (x := a) (e := a) (o := exo a C none) (by rw [ha]; exact True.intro) (.inl rfl) k ⟨_, he⟩ (exo_ok he)
  have eu : upd H a (exo a C none) = H := by
    funext b
    by_cases hb : b = a
    · rw [hb, upd_same, ha]
    · rw [upd_ne hb]
  rw [eu] at J
  exact h _ J
theorem ok_err {p0 p1 p2 p3 p4 p5 q0 q1 q2 q3 : Pos} {x : Str} {j : Nat} {pl : Sem Bool} (T : InitT P K mg st qu fI cc cda D fd) (S : NScope ["self", "value", "__class__"] ["self", "value"] ["__class__"] (defScope st))
    (hbd : defBody st = [sSuper p0 p1 p2 p3 p4 p5 x j, sKeep q0 q1 q2 q3]) (hks : (defScope st).names.lookup ("super" : Str) = some .globalImplicit)
    (hp : ((defArgs st).posonlyargs ++ (defArgs st).args).head?.map (·.arg) = some ("self" : Str))
    (hev : ∀ env : Env, eval (.Call (.Attribute (.Call (.Name "super" p0) [] [] p1) "__init__" p2) [.Constant (.str x) j p3] [] p4) env = (do
      let ov ← attributeBase (.Call (.Name "super" p0) [] [] p1) "__init__" env (eval (.Call (.Name "super" p0) [] [] p1) env)
      standAt p2.atName
      let (f, first) ← holding [ov] (getMethod ov "__init__" pl)
      callWith p4 f first (backTo p4 (starEach [.Constant (.str x) j p3] env)) [])) : FnOk P w K mg base CX0 1 fI fd ["self", "value"] (spErr K fI D) := by
  refine ⟨fun vs H Q E h => by obtain ⟨a, C, v, rfl, _⟩ := h; rfl, fun A outer s H args us vs Q E hr e0 hb r hsp => ?_⟩
  have KX : K.In s.heap := e0.mod.kin.keeps fun b o e => (e0.bs b o e).1
  have lim : s.heap.NoLimit := e0.mod.nolimit.keeps fun b o e => (e0.bs b o e).1
  obtain ⟨oc, od, kV, doc, pm, an, ct, osl, efd, lk⟩ := id T.ex
  obtain ⟨cl, cld, csl, hcell⟩ := T.cell
  obtain ⟨a, C, v, ev, TC, ha, k⟩ := hsp
  subst ev
  have hl : [V.ref a, v].length = (["self", "value"] : List Str).length := rfl
  have hC : CellsAt [(("__class__" : Str), cc)] ["__class__"] [some (.ref D)] s.heap H := by
    have hb := e0.mod.kin _ _ hcell
    have hs := e0.bs _ _ hb
    have key : ∀ {y : Str} {c : Addr}, ([(("__class__" : Str), cc)] : List (Str × Addr)).lookup y = some c → c = cc ∧ y = "__class__" := fun {y c} e => by
      have z := PySem.mem_of_lookup e
      have z' : (y, c) = (("__class__" : Str), cc) := by simpa using z
      exact ⟨congrArg Prod.snd z', congrArg Prod.fst z'⟩
    refine ⟨rfl, fun y c e => ?_, fun y z c e1 e2 => (key e1).2.trans (key e2).2.symm, fun i y e => ?_⟩
    · obtain ⟨rfl, rfl⟩ := key e
      exact ⟨hs.2, _, _, hs.1, rfl⟩
    · cases i with
      | zero =>
        have e' : ("__class__" : Str) = y := Option.some.inj e
        subst e'
        refine ⟨cc, by simp [List.lookup], fun u hu => ?_⟩
        have hu' : some (some (V.ref D)) = some (some u) := hu
        cases hu'
        exact ⟨.ref D, rfl, _, hs.1, rfl⟩
      | succ i => simp at e
  have hfd : (K.lookup fI) = some ⟨oc, od, .func (PySem.W.fnX "__init__" qu (defArgs st) (defBody st) (defScope st) [("__class__", cc)] .none kV doc pm an (.ref cda) ct), osl⟩ := by rw [← efd]; exact lk
  refine codeAny_call_function hr.depth (KX _ _ hfd) rfl S.co S.gen rfl (PySem.W.codeRec_of KX T.code) ?_
  have hb' := hb
  rw [efd] at hb'
  refine hb' _ _ _ _ ?_
  refine wpAny_newFunctionEnv S.nocell (fun ⟨n, _⟩ hy => S.par n (List.of_mem_zip hy).1) (fun h₁ hns hsb => ⟨lim.fresh _ hsb, ?_⟩) S.kind
  have kp : ∀ b o, s.heap.get? b = some o → h₁.get? b = some o := fun b o e => hsb.extBut b o (Nat.ne_of_lt (Heap.lt_size e)) (Heap.get?_push_of_some _ e)
  have I : Inv (ncx CX0 P w K mg base ["self", "value", "__class__"] ⟨"__init__", qu, defArgs st, defBody st, defScope st, [("__class__", cc)], cda⟩ fI A outer s H E) [] (startF ["self", "value", "__class__"] [V.ref a, v] [some (.ref D)]) H { s with heap := h₁, toks := s.toks + ((["self", "value"] : List Str).zip us).length } :=
    inv_startN (F := ⟨"__init__", qu, defArgs st, defBody st, defScope st, [("__class__", cc)], cda⟩) S hr.hd e0 hl r hC hns kp
  refine ks_codeAny_funcAt (env := (ncx CX0 P w K mg base ["self", "value", "__class__"] ⟨"__init__", qu, defArgs st, defBody st, defScope st, [("__class__", cc)], cda⟩ fI A outer s H E).env) (body := defBody st) ?_
  rw [show execs (defBody st) = execs [sSuper p0 p1 p2 p3 p4 p5 x j, sKeep q0 q1 q2 q3] from congrArg execs hbd]
  refine ks_wpAt_execs_cons (super_step T rfl TC hks (S.frk _ (by simp)) (S.par _ (by simp)) S.kind hp rfl hev I ha fun s' I' => ?_)
  have hpst : PSs (ncx CX0 P w K mg base ["self", "value", "__class__"] ⟨"__init__", qu, defArgs st, defBody st, defScope st, [("__class__", cc)], cda⟩ fI A outer s H E) [sKeep q0 q1 q2 q3] _ :=
    pss_one (ps_ost (pe_var (i := 0) rfl (.inl (S.par _ (by simp)))) (pe_var (i := 1) rfl (.inl (S.par _ (by simp)))))
  have run := hpst.run [] s' _ H { nx := fun _ H' => Q .non H', rt := Q } I' ⟨_, rfl, _, rfl, a, C, rfl, TC.oex, TC.nov, .inl ⟨ha, k⟩⟩
  refine wpAt_of_wpAny (wpAny_mono run (fun fl s2 hs => ?_) fun e s2 hs => hs)
  have fin : ∀ {σ' : L2.St} {H' : Hp} {v : V} {u : Value}, Inv (ncx CX0 P w K mg base ["self", "value", "__class__"] ⟨"__init__", qu, defArgs st, defBody st, defScope st, [("__class__", cc)], cda⟩ fI A outer s H E) [] σ' H' s2 → L2.RelV v u → Q v H' → CE outer P w H s Q u s2 :=
    fun {σ' H' v u} J rv q => ⟨v, H', J.os, J.bare, J.base, J.hok, rv, q⟩
  cases fl with
  | ret u =>
    obtain ⟨v, σ', H', J, rv, q⟩ := hs
    exact fin J rv q
  | next =>
    obtain ⟨σ', H', J, q⟩ := hs
    exact fin (v := V.non) (u := Value.none) J rfl q
  | brk =>
    obtain ⟨_, _, _, q⟩ := hs
    exact False.elim q
  | cont =>
    obtain ⟨_, _, _, q⟩ := hs
    exact False.elim q
end
/-! ### raise X(e) -/
/-- an error of the class at C with the value v is what is wanted -/
def Raised (C : Addr) (v : V) (H : Hp) (E : XK) : Prop := ∀ d H', H d = none → Ex H H' → H' d = some (.xd [("value", v)]) → E (.ref C) (some d) H'
def tErr (C : Addr) (ta : TA) : L2.St → Hp → XK → Prop := fun σ H Q => ta σ H fun vs H1 => ∃ v, vs = [v] ∧ Raised C v H1 Q
section
variable {X : Cx} {K : PySem.W.Frag} {fI D C : Addr} {fd : FuncData} {x : Str} {p pos : Pos} {e : Expr} {ta : TA}
theorem pmk_err (F : FnOk X.prog X.w X.K X.mg X.base CX0 1 fI fd ["self", "value"] (spErr X.K fI D)) (hb : Binds X.K fd ["self", "value"] []) (TC : ErrC X.K fI D C) (hr : Room 2 X.A) (hg : Gl X x) (hm : X.mg x = some (.ref C)) (ha : PA X [e] ta)
    (hdb : (x == ("__debug__" : Str)) = false := by decide) (he : starEach [e] X.env = (false, eval e X.env) :: starEach [] X.env := by rfl) (hpl : (backTo pos (starEach [] X.env)).any (·.1) = false := by rfl) :
    PMk X (.Call (.Name x p) [e] [] pos) (tErr C ta) := fun pins s σ H Q I h => by
  refine pmk_oex (sp := spErr X.K fI D) (dvs := []) TC.oex TC.init TC.tI F hr hb .nil pass0 hg hm (pa_cut ha) hdb he hpl pins s σ H Q I ⟨_, h, fun vs H1 z => ?_⟩
  obtain ⟨v, rfl, k⟩ := z
  refine ⟨by show 1 ≤ 1000; decide, fun a hn => ⟨a, C, v, rfl, TC, upd_same, fun dx hdx ne => ⟨rfl, dx, [("value", v)], upd_same, by rw [upd_ne ne, upd_same], ?_, ?_⟩⟩⟩
  · rw [upd_ne ne] at hdx
    exact hdx
  · rw [upd_ne ne] at hdx
    refine k dx _ hdx (fun b o hb => ?_) upd_same
    have n1 := ne_of_none hb hdx
    have n2 := ne_of_none hb hn
    rw [upd_ne n1, del_ne n2, upd_ne n2, upd_ne n1, upd_ne n2]
    exact hb
end
/-- calls of a def that may raise, in one that may -/
theorem passX {P : Program} {w : World} {K : PySem.W.Frag} {mg : Str → Option Value} {base : Heap} {N : List Str} {qual : Str} {scope : Scope} {f : Addr} {cd : Value} {A : Around} {outer : List Env} {s : Shared} {H : Hp} {E : XK} :
    Passes (L2.CX P w) (cxOf (L2.CX P w) P w K mg base N qual scope f cd A outer s H E) E := passes_call (X := cxOf (L2.CX P w) P w K mg base N qual scope f cd A outer s H E) (takes_of rfl rfl rfl rfl) (fun _ _ _ _ h => h)
/-! ### what the head's facts give -/
theorem along_ve (K : PySem.W.Frag) : PySem.W.alongIn K "__init__" PySem.HandSPX.veTail = some (some (.builtin "ValueError.__init__")) := by kernel_rfl
section
variable {K : PySem.W.Frag} {nm q : Str} {C D N : Addr} {bs : List Value} {sn : List Str} {sub : List Value} {ab : Bool} {col : Option Bool} {dd : Option Addr} {k0 k1 k2 k3 k5 : Option Value}
theorem sup_self (h : K.lookup C = some (excClassObj nm q C N bs PySem.HandSPX.veTail true sn sub ab col dd k0 k1 k2 k3 k5 "ValueError.__new__")) (e : C = D) : PySem.W.ks_superIn K C D "__init__" = some (some (.builtin "ValueError.__init__")) := by
  subst e
  unfold PySem.W.ks_superIn PySem.W.clsIn
  rw [h]
  show PySem.W.alongIn K "__init__" (((Value.ref C :: PySem.HandSPX.veTail).dropWhile (· != .ref C)).drop 1) = _
  rw [ESX.drop_own]
  exact along_ve K
theorem sup_child (h : K.lookup C = some (excClassObj nm q C N bs (.ref D :: PySem.HandSPX.veTail) true sn sub ab col dd k0 k1 k2 k3 k5 "ValueError.__new__")) (e : (C == D) = false) : PySem.W.ks_superIn K C D "__init__" = some (some (.builtin "ValueError.__init__")) := by
  unfold PySem.W.ks_superIn PySem.W.clsIn
  rw [h]
  show PySem.W.alongIn K "__init__" (((Value.ref C :: Value.ref D :: PySem.HandSPX.veTail).dropWhile (· != .ref D)).drop 1) = _
  have ne : ((Value.ref C : Value) != .ref D) = true := by
    have : C ≠ D := by simpa using e
    simp [this]
  rw [List.dropWhile_cons, if_pos ne, ESX.drop_own]
  exact along_ve K
theorem exm_gen {S S' : Addr} {b : Bool} (h1 : PySem.W.subIn K (.ref S') (.type "BaseException") = some true) (h2 : PySem.W.isClsIn K S' = true) (h3 : PySem.W.typeIn K (.ref S') = some (.type "type")) (h4 : PySem.W.subIn K (.ref S) (.ref S') = some b) :
    PySem.W.exmOne K (.ref S) (.ref S') = some b := by
  have e1 : (PySem.W.subIn K (.ref S') (.type "BaseException") == some true) = true := by rw [h1] <;> rfl
  have e2 : ((PySem.W.clsIn K S').isSome && PySem.W.typeIn K (.ref S') == some (.type "type")) = true := by
    have h2' : (PySem.W.clsIn K S').isSome = true := h2
    rw [h2', h3] <;> rfl
  show (if (PySem.W.subIn K (.ref S') (.type "BaseException") == some true) = true then (if ((PySem.W.clsIn K S').isSome && PySem.W.typeIn K (.ref S') == some (.type "type")) = true then PySem.W.subIn K (.ref S) (.ref S') else none) else none) = some b
  rw [if_pos e1, if_pos e2]
  exact h4
end
end My
set_option Elab.async false
set_option linter.all false
set_option maxRecDepth 100000
set_option maxHeartbeats 4000000
/-! Further rules: sum of a tuple, len of a range, calls by keywords of a def that may raise. -/
namespace My
open PySem PySem.Spec PyProof.Rows L2
section
variable {prog : Program} {w : World} {A : Around} {E : Value → Shared → Prop} {s : Shared} {l : Addr} {its : List Value} {ns : List Int} {Q : Value → Shared → Prop}
theorem sum_tupRaw (hh : A.handled = none) (hl : s.heap.IsTuple l its.toArray) (hi : IntsAre its ns)
    (h : ∀ h' tk t', (∀ b o, s.heap.get? b = some o → h'.get? b = some o) → Q (.int ns.sum t') { s with heap := h', toks := tk }) : wpAny (model prog w) A (call (.builtin "sum") [.ref l]) Q E s := by
  obtain ⟨xs, e⟩ := hi.allInts.items
  have hn : numsOf (intItems xs).toList = ns := by rw [← e]; exact hi.numsOf
  rw [nums_intItems] at hn
  rw [e] at hl
  have hlt : l < s.heap.objs.size := by obtain ⟨_, e, _⟩ := hl; exact Heap.lt_size e
  refine call_sum_walkG (wpAny_pyIter_tuple hl ?_)
  refine ⟨_, _, _, _, _, _, numAt xs, rfl, Walks.tuple (A := A.in1) hh _ l (Nat.ne_of_lt hlt) (intItems xs), ⟨⟨_, Heap.get?_push_size _ rfl, rfl, rfl⟩, ?_⟩, (fun b hb => ?_), (fun _ _ => intItems_at), fun h' tk t' hk => ?_⟩
  · obtain ⟨o, e1, e2⟩ := hl
    exact ⟨o, Heap.get?_push_of_some _ e1, e2⟩
  · show b < (s.heap.push _).objs.size
    rw [Heap.size_push]
    rcases List.mem_cons.mp hb with rfl | hb
    · exact Nat.lt_succ_self _
    · rcases List.mem_cons.mp hb with rfl | hb
      · exact Nat.lt_succ_of_lt hlt
      · cases hb
  · have := h h' tk t' (fun b o e => hk b o (fun hm => by
      have z : b = s.heap.objs.size := by simpa using hm
      exact Nat.ne_of_lt (Heap.lt_size e) z) (Heap.get?_push_of_some _ e))
    have e2 : preSum (numAt xs) (intItems xs).size = ns.sum := by
      rw [preSum_eq, List.take_of_length_le (by simp [intItems]), hn]
    rw [e2]
    exact this
end
section
variable {X : Cx}
def rSumT (K : PySem.W.Frag) : List V → Hp → VK → Prop := fun vs H Q => ∃ (a : Addr) (ns : List Int), vs = [V.ref a] ∧ SqT K H a (ns.map V.int) ∧ Q (.int ns.sum) H
theorem cr_sumT (hc : X.calm = true) : CallR X (.builtin "sum") (rSumT X.K) := by
  intro pins s σ H vs us Q I r h
  obtain ⟨a, ns, rfl, hs, q⟩ := h
  obtain ⟨its, rv, hl, _⟩ := I.tuple hs
  rw [Vals.ref1 r]
  exact sum_tupRaw (I.ok.hd hc) hl rv.ints fun h' tk t' hk => ⟨.int _, H, I.kept hk, ⟨_, rfl⟩, q⟩
/-- len(range(a, b)) -/
def rLenR : List V → Hp → VK → Prop := fun vs H Q => ∃ (p : Addr) (lo hi : Int), vs = [V.ref p] ∧ H p = some (.rng lo hi) ∧ hi - lo < 2 ^ 62 ∧ Q (.int (if lo < hi then hi - lo else 0)) H
theorem call_lenR : CallR X (.builtin "len") rLenR := by
  intro pins s σ H vs us Q I r h
  obtain ⟨p, lo, hi, rfl, hp, hz, q⟩ := h
  rw [Vals.ref1 r]
  obtain ⟨t, u, v, ho⟩ := (show ObjOk X.prog X.w H s.heap p (.rng lo hi) from I.hok p _ hp)
  have e : ((if lo < hi then hi - lo else 0 : Int)) = (((if lo < hi then hi - lo else 0 : Int)).toNat : Int) := by split <;> omega
  refine call_len_range (n := ((if lo < hi then hi - lo else 0 : Int)).toNat) (a := lo) (b := hi) (c := 1) ho ?_ ?_ ?_
  · rw [rangeSize_one, ← e]
  · rw [← e]
    split <;> omega
  · rw [← e]
    exact ⟨.int _, H, I.tok _, ⟨_, rfl⟩, q⟩
def rRangeG : List V → Hp → VK → Prop := fun vs H Q => ∃ i j, vs = [V.int i, V.int j] ∧ New (.rng i j) H Q
theorem cr_rangeG : CallR X (.type "range") rRangeG := fun pins s σ H xs us Q I r ⟨i, j, h1, k⟩ => cr_range2 pins s σ H xs us Q I r ⟨i, j, h1, fun p hp => k.go p hp⟩
end
section
variable {X : Cx} {CX : CXT} {k : Nat} {f C : Addr} {fd : FuncData} {ps ks : List Str} {sp : Sp} {E : L2.St → XK} {x m : Str} {p pos apos kpos : Pos} {kws : List Keyword} {tk : TA} {g : List Value → List Value → List Value} {gV : List V → List V → List V}
theorem run_fnkS {pins : List (Addr × Obj)} {σ : L2.St} {H : Hp} {s : Shared} {Q : VK} {us ws : List Value} {vs zs : List V} (F : FnOk X.prog X.w X.K X.mg X.base CX k f fd ps sp) (hr : Room k X.A) (hb : KBinds X.K fd ps ks g gV) (hx : PassesAt CX X σ (E σ))
    (I : Inv X pins σ H s) (r : Vals vs us) (rz : Vals zs ws) (h : sp (gV vs zs) H Q (E σ)) : wpAny (model X.prog X.w) X.A (call (.ref f) us (ks.zip ws)) (EP X pins σ Q) X.xe s := by
  have r2 := hb.rel r rz
  have hl : (g us ws).length = ps.length := by rw [← r2.length]; exact F.len _ _ _ _ h
  refine wpAny_call (codeAny_mono (F.run X.A X.stack s H ⟨us, ks.zip ws⟩ (g us ws) (gV vs zs) Q (E σ) hr I.env0 (hb.to s us ws I.kIn hl) r2 h) fun r s' hq => ?_)
  cases r with
  | error e => exact hx pins H s e s' I hq
  | ok fl =>
    cases fl with
    | ret u => exact I.after hq
    | next => exact False.elim hq
    | brk => exact False.elim hq
    | cont => exact False.elim hq
def tCallKS (sp : Sp) (gV : List V → List V → List V) (E : L2.St → XK) (t tk : TA) : TE := fun σ H Q => t σ H fun vs H1 => tk σ H1 fun zs H2 => sp (gV vs zs) H2 Q (E σ)
/-- f(k = v, ..) in a try -/
theorem pe_callK0S (F : FnOk X.prog X.w X.K X.mg X.base CX k f fd ps sp) (hr : Room k X.A) (hg : Gl X x) (hm : X.mg x = some (.ref f)) (hk : PySem.W.keepIn X.K (.ref f) = true) (hb : KBinds X.K fd ps ks g gV) (hx : ∀ σ, PassesAt CX X σ (E σ))
    (hkw : PK X kws tk) (hall : (backToKw pos (keywordEach kws X.env)).all (·.1.isSome) = true := by rfl) (hks : (backToKw pos (keywordEach kws X.env)).filterMap (·.1) = ks := by rfl)
    (hdb : (x == ("__debug__" : Str)) = false := by decide)
    (hpl : ((backTo pos (starEach [] X.env)).any (·.1) || (backToKw pos (keywordEach kws X.env)).any (·.1.isNone)) = false := by rfl) :
    PE X (.Call (.Name x p) [] kws pos) (tCallKS sp gV E tNil tk) := by
  refine ⟨fun pins s σ H Q I h => ?_⟩
  refine wpAny_Call_Name_kw (ld_glob I hg hm ?_ hdb)
  refine PySem.W.callWith_KW0 (h₀ := X.base) I.ok.mod.kin hk hall ?_ hpl
  refine thn (hkw.run pos pins s σ H _ I h) fun ws s2 ⟨zs, H2, I2, rz, q2⟩ => ⟨I2.kIn, ?_⟩
  rw [hks]
  exact run_fnkS (us := []) (vs := []) F hr hb (hx σ) I2 .nil rz q2
variable {e : Expr} {es : List Expr} {t : TA}
/-- f(e, .., k = v, ..) in a try -/
theorem pe_callKS (F : FnOk X.prog X.w X.K X.mg X.base CX k f fd ps sp) (hr : Room k X.A) (hg : Gl X x) (hm : X.mg x = some (.ref f)) (hk : PySem.W.keepIn X.K (.ref f) = true) (hb : KBinds X.K fd ps ks g gV) (hx : ∀ σ, PassesAt CX X σ (E σ))
    (ha : PA X (e :: es) t) (hkw : PK X kws tk) (hall : (backToKw pos (keywordEach kws X.env)).all (·.1.isSome) = true := by rfl) (hks : (backToKw pos (keywordEach kws X.env)).filterMap (·.1) = ks := by rfl)
    (hdb : (x == ("__debug__" : Str)) = false := by decide) (he : starEach (e :: es) X.env = (false, eval e X.env) :: starEach es X.env := by rfl)
    (hpl : ((backTo pos (starEach (e :: es) X.env)).any (·.1) || (backToKw pos (keywordEach kws X.env)).any (·.1.isNone)) = false := by rfl) :
    PE X (.Call (.Name x p) (e :: es) kws pos) (tCallKS sp gV E t tk) := by
  refine ⟨fun pins s σ H Q I h => ?_⟩
  refine wpAny_Call_Name_kw (ld_glob I hg hm ?_ hdb)
  refine PySem.W.callWith_KW (h₀ := X.base) I.ok.mod.kin hk hall (thn (ha.run pos pins s σ H _ I h) fun us s1 ⟨vs, H1, I1, r, q⟩ => ?_) hpl he
  refine thn (hkw.run pos pins s1 σ H1 _ I1 q) fun ws s2 ⟨zs, H2, I2, rz, q2⟩ => ⟨I2.kIn, ?_⟩
  rw [hks]
  exact run_fnkS F hr hb (hx σ) I2 r rz q2
end
/-! rules within a comprehension: what may be kept by name is that of the def -/
section
variable {X : Cx} {K : PySem.W.Frag}
theorem crK {f : Value} {r : PySem.W.Frag → List V → Hp → VK → Prop} (h : X.K = K) (c : CallR X f (r X.K)) : CallR X f (r K) := h ▸ c
theorem ixK {r : PySem.W.Frag → R2} (h : X.K = K) (c : IxR X (r X.K)) : IxR X (r K) := h ▸ c
theorem opK {f : Value → Value → Sem Value} {r : PySem.W.Frag → R2} (h : X.K = K) (c : OpR X f (r X.K)) : OpR X f (r K) := h ▸ c
def rLenSq (K : PySem.W.Frag) : List V → Hp → VK → Prop := fun xs H Q => ∃ p ys, xs = [.ref p] ∧ (SqL K H p ys ∨ SqT K H p ys) ∧ Q (.int ys.length) H
end
end My
set_option Elab.async false
set_option linter.all false
set_option maxRecDepth 100000
set_option maxHeartbeats 4000000
/-! Defs under which repr may be asked: no repr is under way. -/
namespace My
open PySem PySem.Spec PyProof.Rows L2
structure FnOkG (P : Program) (w : World) (K : PySem.W.Frag) (mg : Str → Option Value) (base : Heap) (CX : CXT) (k : Nat) (f : Addr) (fd : FuncData) (ps : List Str) (sp : Sp) : Prop where
  len : ∀ vs H Q E, sp vs H Q E → vs.length = ps.length
  run : ∀ (A : Around) (outer : List Env) (s : Shared) (H : Hp) (args : Args) (us : List Value) (vs : List V) (Q : VK) (E : XK), Room k A → A.guards = some [] → Env0 P w K mg base A outer s H → BindsTo s fd args (ps.zip us) → Vals vs us → sp vs H Q E →
    codeAny (model P w) A (.call (.ref f) args) (CR CX outer P w H s Q E) s
theorem fn_ofG {CX : CXT} {P : Program} {w : World} {K : PySem.W.Frag} {mg : Str → Option Value} {base : Heap} {k : Nat} {f : Addr} {name qual : Str} {params : Arguments} {body : List Stmt} {scope : Scope} {dV kV doc pm cdv ct oc : Value} {an od : Option Addr}
    {osl : Array (Option Value)} {N ps : List Str} {sp : Sp} (lk : K.lookup f = some ⟨oc, od, .func (PySem.W.fnOf name qual params body scope dV kV doc pm an cdv ct), osl⟩) (hcd : PySem.W.codeIn K cdv qual = true) (S : FnScope N ps scope)
    (len : ∀ vs H Q E, sp vs H Q E → vs.length = ps.length)
    (hbody : ∀ (A : Around) (outer : List Env) (s : Shared) (H : Hp) (vs : List V) (Q : VK) (E : XK), Room k (A.deeper (envOfC qual scope s.heap.objs.size f cdv)) → A.guards = some [] → sp vs H Q E →
      ∃ t, PSs (cxOf CX P w K mg base N qual scope f cdv A outer s H E) body t ∧ t { nx := fun _ H' => Q .non H', rt := Q } (start N vs) H) :
    FnOkG P w K mg base CX (k + 1) f (PySem.W.fnOf name qual params body scope dV kV doc pm an cdv ct) ps sp := by
  refine ⟨len, fun A outer s H args us vs Q E hr hg e0 hb r hsp => ?_⟩
  have hl := len _ _ _ _ hsp
  have KX : K.In s.heap := e0.mod.kin.keeps fun b o e => (e0.bs b o e).1
  have lim : s.heap.NoLimit := e0.mod.nolimit.keeps fun b o e => (e0.bs b o e).1
  refine codeAny_call_function hr.depth (KX _ _ lk) rfl S.co S.gen rfl (PySem.W.codeRec_of KX hcd) (hb _ _ _ _ ?_)
  refine wpAny_newFunctionEnv_cells S.kind (fun ⟨n, v⟩ hy => ?_) fun env he s1 x => ?_
  · rcases S.par n (List.of_mem_zip hy).1 with q | q
    · exact .inl q
    · exact .inr ⟨q, PySem.W.cellsFrom_some _ _ _ (.inl q)⟩
  subst he
  refine ⟨lim.keeps x.toInCall.keep, codeAny_func ?_⟩
  obtain ⟨t, ht, hq⟩ := hbody A outer s H vs Q E (hr.deeper _) hg hsp
  have I : Inv (cxOf CX P w K mg base N qual scope f cdv A outer s H E) [] (start N vs) H s1 := inv_start S hr.hd e0 hl r x
  refine wpAny_mono (ht.run [] s1 (start N vs) H _ I hq) (fun fl s' hs => ?_) fun e s' hs => hs
  cases fl with
  | ret u =>
    obtain ⟨v, σ', H', J, rv, q⟩ := hs
    exact ⟨v, H', J.os, J.bare, J.base, J.hok, rv, q⟩
  | next =>
    obtain ⟨σ', H', J, q⟩ := hs
    exact ⟨.non, H', J.os, J.bare, J.base, J.hok, rfl, q⟩
  | brk =>
    obtain ⟨_, _, _, q⟩ := hs
    exact False.elim q
  | cont =>
    obtain ⟨_, _, _, q⟩ := hs
    exact False.elim q
section
variable {P : Program} {w : World} {K : PySem.W.Frag} {mg : Str → Option Value} {base : Heap}
theorem _root_.L2.Fun.okG {x qual : Str} {st : Stmt} {f : Addr} {fd : FuncData} {N ps : List Str} {k : Nat} {sp : Sp} (F : Fun K x qual st f fd) (S : FnScope N ps (defScope st)) (len : ∀ vs H Q E, sp vs H Q E → vs.length = ps.length)
    (hbody : ∀ (cdv : Value) (A : Around) (outer : List Env) (s : Shared) (H : Hp) (vs : List V) (Q : VK) (E : XK), Room k (A.deeper (envOfC qual (defScope st) s.heap.objs.size f cdv)) → A.guards = some [] → sp vs H Q E →
      ∃ t, PSs (cxOf CX0 P w K mg base N qual (defScope st) f cdv A outer s H E).nox (defBody st) t ∧ t { nx := fun _ H' => Q .non H', rt := Q } (start N vs) H) : FnOkG P w K mg base CX0 (k + 1) f fd ps sp := by
  obtain ⟨oc, od, kV, doc, pm, an, cdv, ct, osl, rfl, lk, hcd⟩ := F.ex
  refine fn_ofG lk hcd S len fun A outer s H vs Q E hr hg hsp => ?_
  obtain ⟨t, h, q⟩ := hbody cdv A outer s H vs Q E hr hg hsp
  exact ⟨t, h.nox, q⟩
end
section
variable {X : Cx} {CX : CXT} {k : Nat} {f : Addr} {fd : FuncData} {ps : List Str} {sp : Sp} {dvs : List V} {ds : List Value} {E : XK} {x : Str} {p pos : Pos} {e : Expr} {es : List Expr} {t : TA}
theorem pe_callG (F : FnOkG X.prog X.w X.K X.mg X.base CX k f fd ps sp) (hr : Room k X.A) (gd : X.A.guards = some []) (hg : Gl X x) (hm : X.mg x = some (.ref f)) (hk : PySem.W.keepIn X.K (.ref f) = true) (hb : Binds X.K fd ps ds) (hd : Vals dvs ds) (hx : Passes CX X E)
    (ha : PA X (e :: es) t) (hdb : (x == ("__debug__" : Str)) = false := by decide) (he : starEach (e :: es) X.env = (false, eval e X.env) :: starEach es X.env := by rfl) (hpl : (backTo pos (starEach es X.env)).any (·.1) = false := by rfl) :
    PE X (.Call (.Name x p) (e :: es) [] pos) (tCall sp dvs E t) := by
  refine ⟨fun pins s σ H Q I h => ?_⟩
  refine wpAny_Call_Name_kw (ld_glob I hg hm ?_ hdb)
  refine PySem.W.callWith_K (h₀ := X.base) I.ok.mod.kin hk (thn (ha.run pos pins s σ H _ I h) fun us s1 ⟨vs, H1, I1, r, q⟩ => ⟨I1.kIn, ?_⟩) he hpl
  have r2 : Vals (vs ++ dvs) (us ++ ds) := r.append hd
  have hl : (us ++ ds).length = ps.length := by rw [← r2.length]; exact F.len _ _ _ _ q
  refine wpAny_call (codeAny_mono (F.run X.A X.stack s1 H1 ⟨us, []⟩ (us ++ ds) (vs ++ dvs) Q E hr gd I1.env0 (hb s1 us I1.kIn hl) r2 q) fun r s' hq => ?_)
  cases r with
  | error e => exact hx pins σ H1 s1 e s' I1 hq
  | ok fl =>
    cases fl with
    | ret u => exact I1.after hq
    | next => exact False.elim hq
    | brk => exact False.elim hq
    | cont => exact False.elim hq
/-- repr of data without dicts -/
def rRepr (K : PySem.W.Frag) : List V → Hp → VK → Prop := fun vs H Q => ∃ (v : V) (d : PyData), vs = [v] ∧ Dp K H v d ∧ d.showable = true ∧ d.hasDict = false ∧ d.depth ≤ 60 ∧ d.shown.length ≤ sizeLine ∧ (∃ a, v = .ref a) ∧ Q (.str d.shown) H
theorem cr_repr (gd : X.A.guards = some []) (hu : X.A.units + 64 < cLine) : CallR X (.builtin "repr") (rRepr X.K) := by
  intro pins s σ H vs us Q I r h
  obtain ⟨v, d, rfl, hd, h1, h2, h3, h4, ⟨a, rfl⟩, q⟩ := h
  rw [Vals.ref1 r]
  obtain ⟨as, rd⟩ := Dp.reads I d (.ref a) (.ref a) hd rfl
  exact repr_of_reads' rd h1 (fun z => by rw [h2] at z; cases z) gd (by omega) (fun b o e => e) (fun h' u tk hk => ⟨.str d.shown, H, I.kept hk, ⟨_, rfl⟩, q⟩) h4
end
/-! ### the head: nothing of repr is under way where the law is called -/
theorem law_callG {P : Program} {w : World} {K : PySem.W.Frag} {mg mb : Str → Option Value} {CX : CXT} {k : Nat} {fa a : Addr} {fd : FuncData} {x : Str} {sp : Sp} {s₁ : Shared} {vs : List Value} {ns : List Int}
    (KX : K.In s₁.heap) (hns : s₁.heap.Ns mainGlobals mg) (hb : s₁.heap.Ns builtinsNs mb) (hbb : ∀ x : Str, x ≠ "__name__" → mb x = bootBuiltins x) (hlim : s₁.heap.NoLimit) (hg : s₁.gens = #[])
    (ha : s₁.heap.get? a = some { cls := .type "list", data := .seq vs.toArray }) (hi : IntsAre vs ns) (hl : ns.length ≤ sizeLine) (hr : Room k callerA)
    (F : ∀ base : Heap, K.In base → base.Ns mainGlobals mg → FnOkG P w K mg base CX k fa fd [x] sp) (hbind : ∀ (s : Shared) (u : Value), BindsTo s fd ⟨[u], []⟩ [(x, u)])
    (hsp : ∀ H : Hp, Only H → SqL K H a (ns.map V.int) → sp [.ref a] H (fun v _ => v = .bl true) fun _ _ _ => False)
    (hCX : ∀ H e s', CX [] H s₁ (fun _ _ _ => False) e s' → False) :
    codeAny (model P w) callerA (.call (.ref fa) ⟨[.ref a], []⟩) (fun r s' => r = .ok (.ret (.bool true)) ∧ OldK s₁.heap s'.heap ∧ s'.os = s₁.os ∧ AllBare s'.gens) s₁ := by
  have rv := vals_ints hi
  have lenV := hi.length
  have core : ∀ H : Hp, Only H → SqL K H a (ns.map V.int) → HOk P w H s₁.heap → (∀ b, H b ≠ none → b = a) → (H a ≠ none → K.lookup a = none) →
      codeAny (model P w) callerA (.call (.ref fa) ⟨[.ref a], []⟩) (fun r s' => r = .ok (.ret (.bool true)) ∧ OldK s₁.heap s'.heap ∧ s'.os = s₁.os ∧ AllBare s'.gens) s₁ := by
    intro H hO hS hok hA hK
    have free : ∀ {b : Addr} {P : Prop}, (∀ u, H b = some u → b = a → P → False) → P → H b = none := fun {b P} h p => by
      cases q : H b with
      | none => rfl
      | some u => exact (h u q (hA b (by rw [q]; simp)) p).elim
    have noA : ∀ {b : Addr} {o : Obj} {es : Array DictEntry} {ep : Nat}, s₁.heap.get? b = some o → o.data = .dict es ep → H b = none := fun {b o es ep} e d => free (P := True) (fun u q e' _ => by
      subst e'
      rw [ha] at e
      cases e
      cases d) trivial
    have nsK : ∀ {b : Addr} {m : Str → Option Value}, s₁.heap.Ns b m → (hidT s₁.heap H).Ns b m := fun {b m} ⟨o, es, ep, e, d, r⟩ => ⟨o, es, ep, hidT_get e (noA e d), d, r⟩
    have hKb : K.In (hidT s₁.heap H) := fun b o e => hidT_get (KX b o e) (free (P := True) (fun u q e' _ => by
      subst e'
      rw [hK (by rw [q]; simp)] at e
      cases e) trivial)
    have hM : Mod K mg (hidT s₁.heap H) := ⟨hKb, nsK hns, ⟨mb, nsK hb, hbb⟩, let ⟨mc, h1, h2⟩ := hlim; ⟨mc, nsK h1, h2⟩⟩
    have e0 : Env0 P w K mg (hidT s₁.heap H) callerA [] s₁ H := ⟨rfl, hM, fun b o e => of_hidT e, Nat.le_of_eq (hidT_size _ _), trivial, fun b hb => absurd (show b ∈ ([] : List Addr) from hb) (by simp), hok, .of_eq hg⟩
    refine codeAny_mono ((F _ hKb (nsK hns)).run callerA [] s₁ H ⟨[.ref a], []⟩ [.ref a] [.ref a] _ _ hr rfl e0 (hbind s₁ (.ref a)) (.cons rfl .nil) (hsp H hO hS)) fun r s' h => ?_
    cases r with
    | error e => exact (hCX H e s' h).elim
    | ok fl =>
      cases fl with
      | next => exact False.elim h
      | brk => exact False.elim h
      | cont => exact False.elim h
      | ret u =>
        obtain ⟨v, H', os, bare, un, hok', r', q⟩ := h
        have q' : v = .bl true := q
        subst q'
        obtain rfl : u = Value.bool true := r'
        refine ⟨rfl, OldK.of_keep fun b o e => ?_, os, bare⟩
        rcases hO b with z | ⟨ob, xs, z⟩
        · exact un.keep b o e z (by intro z; exact absurd (show b ∈ ([] : List Addr) from z) (by simp)) (by simp)
        · have z2 := un.frzs b ob _ z
          obtain ⟨e1, _⟩ := hok b _ z
          obtain ⟨e2, _⟩ := hok' b _ z2
          rw [e] at e1
          cases e1
          exact e2
  cases hk : K.lookup a with
  | some o =>
    have e := KX a o hk
    rw [ha] at e
    cases e
    exact core (fun _ => none) (fun _ => .inl rfl) (.inr ⟨_, vs.toArray, _, hk, rfl, rfl, rfl, by rw [List.size_toArray, lenV]; exact hl, by simpa using rv⟩) (fun b u z => nomatch (show (none : Option HO) = some u from z)) (fun b z => absurd rfl z) fun z => absurd rfl z
  | none =>
    refine core (fun b => if b = a then some (.frz { cls := .type "list", data := .seq vs.toArray } (.lst (ns.map V.int))) else none) (fun b => ?_) (.inl (.inr ⟨{ cls := .type "list", data := .seq vs.toArray }, if_pos rfl⟩)) (fun b u z => ?_) (fun b z => ?_) fun _ => hk
    · by_cases hb : b = a
      · exact .inr ⟨_, _, if_pos hb⟩
      · exact .inl (if_neg hb)
    · by_cases hb : b = a
      · have z' := (if_pos hb).symm.trans z
        cases z'
        subst hb
        exact ⟨ha, by rw [List.length_map]; exact hl, vs, _, rv, ha⟩
      · have z' := (if_neg hb).symm.trans z
        cases z'
    · by_cases hb : b = a
      · exact hb
      · exact absurd (if_neg hb) z
theorem walk_ofG {l : PySem.W.OpenLaw} {n k : Nat} {q : Program} {loose : List Str} {XP : (Str → Option Value) → Heap → Prop} {YP : World → Heap → Prop} {d : DefRec} {K : Params → PySem.W.Frag} {CX : World → CXT} {sp : World → Sp} {x : Str}
    (hn : l.most = some n) (hn2 : n ≤ sizeLine) (hdf : d.params.defaults = []) (hr : Room k callerA)
    (hY : ∀ (w : World) (h : Heap), YP w h → (K w.params).In h)
    (F : ∀ (w : World) (mg : Str → Option Value) (fa : Addr) (h : Heap), (K w.params).In h → h.Ns mainGlobals mg → mg d.name = some (.ref fa) →
      ∃ fd : FuncData, (∀ (s : Shared) (u : Value), BindsTo s fd ⟨[u], []⟩ [(x, u)]) ∧
        ∀ base : Heap, (K w.params).In base → base.Ns mainGlobals mg → FnOkG l.prog w (K w.params) mg base (CX w) k fa fd [x] (sp w))
    (hsp : ∀ (w : World) (H : Hp) (a : Addr) (ns : List Int), ns.length ≤ n → Only H → SqL (K w.params) H a (ns.map V.int) → sp w [.ref a] H (fun v _ => v = .bl true) fun _ _ _ => False)
    (hCX : ∀ (w : World) (H : Hp) (s : Shared) (e : Value) (s' : Shared), CX w [] H s (fun _ _ _ => False) e s' → False) :
    PySem.W.WalkO q loose XP YP l.row.toRowW d [] (fun f vs => PySem.call f vs) := by
  refine Att.attach_call hn hdf fun w s₀ s₁ mg mb fa o pm cd doc a vs ns G Y ho hd hcd hmg hobj hints hlen hg => ?_
  have KX := hY w _ Y
  obtain ⟨fd, hb, hF⟩ := F w mg fa _ KX G.T.g hmg
  exact law_callG KX G.T.g G.T.b G.T.builtins G.T.nolimit hg hobj hints (Nat.le_trans hlen hn2) hr hF hb (fun H hO hS => hsp w H a ns hlen hO hS) fun H e s' => hCX w H s₁ e s'
end My
set_option Elab.async false
set_option linter.all false
set_option maxRecDepth 100000
set_option maxHeartbeats 4000000
/-! sorted(d) of a dict whose keys are ints. -/
namespace My
open PySem PySem.Spec PyProof.Rows L2
theorem len_dict : typeLookup (.type "dict") "__len__" = pure (some (.builtin "dict.__len__")) := by rw [typeLookup_type, builtinLookup_eq_fast]; kernel_rfl
section
variable {prog : Program} {w : World} {A : Around} {E : Value → Shared → Prop} {s : Shared} {d : Addr} {od : Obj} {es : Array DictEntry} {ep : Nat}
theorem dict_hint (hT : s.TypeIs (.ref d) "dict") {Q : Bool → Shared → Prop} (h : Q false s) : wpAny (model prog w) A (Builtin.List.listLengthHint (.ref d)) Q E s := by
  unfold Builtin.List.listLengthHint
  refine wpAny_bind (wpAny_specialOf hT len_dict ?_)
  generalize hid : ("dict.__len__" : String) = id0
  wp_delta
  rw [show splitId id0 = some ("dict", "__len__") from by subst hid; decide +kernel]
  subst hid
  refine wpAny_bind (wpAny_isInstance (T := "dict") (b := true) hT (by rw [isSubtype_type]; kernel_rfl) ?_)
  refine wpAny_ite_split (fun hab => absurd hab (by decide)) (fun _ => ?_)
  refine wpAny_ite_split (fun _ => ?_) (fun hab => absurd (by decide +kernel) hab)
  refine wpAny_bind (wpAny_typeOf hT ?_)
  exact wpAny_pure h
/-- the loop that takes the keys -/
theorem loopD {R : Result → Shared → Prop} {S I : Addr} (hh : A.handled = none) (hSI : S ≠ I) (hSd : d ≠ S) (hId : d ≠ I) (hn : es.size ≤ sizeLine) (res : Value) {h₁ : Heap} (hdd : od.data = .dict es ep)
    (hR : ∀ h' c, (∀ b o, b ≠ S → b ≠ I → h₁.get? b = some o → h'.get? b = some o) → h'.get? S = some { cls := .type "list", dict := none, data := .seq (es.map (·.key)) c, slots := #[] } → R (.ok (.ret res)) { s with heap := h' }) :
    ∀ (k i : Nat) (h : Heap) (c : Nat) (acc : Array Value), es.size - i = k → i ≤ es.size → h.IsKeyIter I d i es.size ep → h.get? d = some od → (∀ b o, b ≠ S → b ≠ I → h₁.get? b = some o → h.get? b = some o) →
      h.get? S = some { cls := .type "list", dict := none, data := .seq acc c, slots := #[] } → acc.toList = (es.toList.take i).map (·.key) →
      codeAny (model prog w) A (.builtin "list.extend.loop" ⟨[.ref S, .ref I, res], []⟩) R { s with heap := h } := by
  intro k
  induction k with
  | zero =>
    intro i h c acc hk hi hst hD hkeep hS hacc
    refine codeAny_builtin PySem.F.entry_extend_loop ?_
    rw [Around.under_plainId PySem.F.plain_extend_loop _]
    show wpAny _ A.in1 (pyNext (.ref I) >>= _) _ _ _
    refine wpAny_bind (next_key_end (s := { s with heap := h }) (A := A.in1) hh hst hD hdd rfl (by omega) fun h' he => ?_)
    have ea : acc = es.map (·.key) := by
      apply Array.toList_inj.mp
      rw [hacc, List.take_of_length_le (by rw [Array.length_toList]; omega), Array.toList_map]
    rw [ea] at hS
    exact wpAny_pure (hR h' c (fun b o h1 h2 e => he b o h2 (hkeep b o h1 h2 e)) (he S _ hSI hS))
  | succ k ih =>
    intro i h c acc hk hi hst hD hkeep hS hacc
    have hlt : i < es.size := by omega
    have hsz : acc.size = i := by rw [← Array.length_toList, hacc, List.length_map, List.length_take, Array.length_toList]; omega
    refine codeAny_builtin PySem.F.entry_extend_loop ?_
    rw [Around.under_plainId PySem.F.plain_extend_loop _]
    show wpAny _ A.in1 (pyNext (.ref I) >>= _) _ _ _
    refine wpAny_bind (next_key_item (s := { s with heap := h }) (en := es[i]) hst hD hdd rfl (Array.getElem?_eq_getElem hlt) fun h' hst' hs' => ?_)
    have hS' := hs'.extBut S _ hSI hS
    have up : ∀ b o, b ≠ S → h'.get? b = some o → (h'.update S (Obj.mapSeq (·.push es[i].key))).get? b = some o := fun b o hb e => (Heap.get?_update_other _ _ (Ne.symm hb)).trans e
    show wpAny _ A.in1 (updateSeq S (·.push es[i].key) >>= _) _ _ _
    refine wpAny_bind ?_
    refine wpAny_updateSeq hS' rfl (wpAny_pure ⟨plainId_quiet PySem.F.plain_extend_loop _, ih (i + 1) _ _ (acc.push es[i].key) (by omega) hlt (hst'.at fun o e => up _ o hSI.symm e) (up d _ hSd (hs'.extBut d _ hId hD))
      (fun b o h1 h2 e => up b o h1 (hs'.extBut b _ h2 (hkeep b o h1 h2 e))) (Heap.get?_update_self _ hS' rfl) ?_⟩) (by rw [hsz]; omega) (by show (acc.push es[i].key).size ≤ sizeLine + 1; rw [Array.size_push, hsz]; omega)
    rw [Array.toList_push, hacc, List.take_add_one, Array.getElem?_toList, Array.getElem?_eq_getElem hlt, List.map_append]
    rfl
theorem extD {R : Result → Shared → Prop} {P2 : Program} {κ : Type} [DecidableEq κ] {knd : PySem.KeyKind prog w κ} {kvs : List (κ × Value)} (hh : A.handled = none) (hsys : (d == sysModules) = false) (hm : s.heap.DictAt knd d kvs ep) (ho : s.heap.get? d = some od) (hdd : od.data = .dict es ep) (hk : kvs.length = es.size) (S : Addr) (hSd : d ≠ S) (res : Value) (c₀ : Nat) (hS : s.heap.get? S = some { cls := .type "list", data := .seq #[] c₀ })
    (hR : ∀ h' c, (∀ b o, b ≠ S → s.heap.get? b = some o → h'.get? b = some o) → h'.get? S = some { cls := .type "list", dict := none, data := .seq (es.map (·.key)) c, slots := #[] } → R (.ok (.ret res)) { s with heap := h' }) (hn : es.size ≤ sizeLine) :
    wpAny (model prog w) A.in1 (Builtin.List.listExtendWith (.ref S) (.ref d) res)
      (fun fin s' => match fin with | .done f => R (.ok f) s' | .again c' => c'.quiet = true ∧ codeAny (model prog w) A c' R s') (fun e s' => R (.error e) s') s := by
  have hSI : S < s.heap.objs.size := Heap.lt_size hS
  have hdI : d < s.heap.objs.size := Heap.lt_size ho
  have hT : s.TypeIs (.ref d) "dict" := hm.dictOf.typeIs
  have key : ∀ (h : Heap) (c₁ : Nat), (∀ b o, b ≠ S → (s.heap.push { cls := .type "dict_keyiterator", data := .fields #[.ref d, .int 0 0, .int kvs.length 0, .int ep 0] }).get? b = some o → h.get? b = some o) →
      h.get? S = some { cls := .type "list", data := .seq #[] c₁ } → codeAny (model prog w) A (.builtin "list.extend.loop" ⟨[.ref S, .ref s.heap.objs.size, res], []⟩) R { s with heap := h } := by
    intro h c₁ hk' hS₁
    have hI := hk' s.heap.objs.size _ (Nat.ne_of_gt hSI) (Heap.get?_push_size _ rfl)
    rw [hk] at hI
    exact loopD (s := s) (h₁ := s.heap) hh (Nat.ne_of_lt hSI) hSd (Nat.ne_of_lt hdI) hn res hdd (fun h' c hk2 hS2 => hR h' c (fun b o hb e => hk2 b o hb (Nat.ne_of_lt (Heap.lt_size e)) e) hS2)
      es.size 0 h c₁ #[] (Nat.sub_zero _) (Nat.zero_le _) ⟨_, hI, rfl, rfl⟩ (hk' d _ hSd (Heap.get?_push_of_some _ ho)) (fun b o hb _ e => hk' b o hb (Heap.get?_push_of_some _ e)) hS₁ rfl
  unfold Builtin.List.listExtendWith
  refine wpAny_bind (wpAny_typeOf (T := "dict") hT ?_)
  have h1 : Builtin.List.listSameRef (.ref S) (.ref d) = false := by simp [Builtin.List.listSameRef, Ne.symm hSd]
  have h2 : (Value.type "dict" == Value.type "list") = false := by decide
  have h3 : (Value.type "dict" == Value.type "tuple") = false := by decide
  simp only [h1, h2, h3, Bool.or_false, Bool.false_eq_true, if_false]
  refine wpAny_bind (wpAny_pyIter_dict hsys hm ?_)
  have hS₁ := Heap.get?_push_of_some { cls := .type "dict_keyiterator", data := .fields #[.ref d, .int 0 0, .int kvs.length 0, .int ep 0] } hS
  refine wpAny_bind (wpAny_holding (dict_hint (let ⟨o, ho, hc⟩ := hT; ⟨o, Heap.get?_push_of_some _ ho, hc⟩) ?_))
  refine wpAny_ite_split (fun _ => ?_) (fun _ => wpAny_pure ⟨plainId_quiet PySem.F.plain_extend_loop _, key _ c₀ (fun b o _ e => e) hS₁⟩)
  refine wpAny_bind (wpAny_rule ?_)
  refine wpAny_bind ?_
  show wpAny _ _ (updateSeq S (·.push .none) >>= fun _ => updateSeq S (·.pop)) _ _ _
  refine wpAny_bind (wpAny_updateSeq hS₁ rfl ?_)
  have hS₂ := Heap.get?_update_self (Obj.mapSeq (·.push Value.none)) hS₁ rfl
  refine wpAny_updateSeq (hz := by seq_fits) hS₂ rfl ?_
  have hS₃ := Heap.get?_update_self (Obj.mapSeq (·.pop)) hS₂ rfl
  refine wpAny_pure ⟨plainId_quiet PySem.F.plain_extend_loop _, key _ _ (fun b o hb e => ?_) hS₃⟩
  exact (Heap.get?_update_other _ _ (Ne.symm hb)).trans ((Heap.get?_update_other _ _ (Ne.symm hb)).trans e)
theorem collectD {R : List Value → Shared → Prop} {κ : Type} [DecidableEq κ] {knd : PySem.KeyKind prog w κ} {kvs : List (κ × Value)} (hh : A.handled = none) (hsys : (d == sysModules) = false) (hm : s.heap.DictAt knd d kvs ep) (ho : s.heap.get? d = some od) (hdd : od.data = .dict es ep) (hk : kvs.length = es.size) (hn : es.size ≤ sizeLine)
    (h : ∀ (h' : Heap), (∀ b o, s.heap.get? b = some o → h'.get? b = some o) → s.heap.objs.size < h'.objs.size → R (es.toList.map (·.key)) { s with heap := h' }) :
    wpAny (model prog w) A (collect (.ref d)) R E s := by
  have hd : d < s.heap.objs.size := Heap.lt_size ho
  unfold collect
  refine wpAny_bind (wpAny_runValue (codeAny_builtin entry_proto_collect' ?_))
  rw [Around.under_plainId PySem.F.plain_proto_collect _]
  show wpAny _ A.in1 (newList [] >>= fun l => again (.builtin "list.__iadd__" ⟨[l, .ref d], []⟩)) _ _ s
  refine wpAny_bind (wpAny_newObj_type ?_)
  refine wpAny_pure ⟨plainId_quiet PySem.F.plain_list_iadd _, codeAny_builtin entry_list_iadd' ?_⟩
  rw [Around.under_plainId PySem.F.plain_list_iadd _]
  have hS₁ : (s.heap.push { cls := .type "list", data := .seq ([] : List Value).toArray }).get? s.heap.objs.size = some { cls := .type "list", data := .seq #[] } := Heap.get?_push_size _ rfl
  show wpAny _ A.in1 (Builtin.List.listExtendWith (.ref s.heap.objs.size) (.ref d) (.ref s.heap.objs.size)) _ _ _
  have key := extD (prog := prog) (w := w) (A := A) (P2 := prog) (s := { s with heap := s.heap.push { cls := .type "list", data := .seq ([] : List Value).toArray } }) (es := es) (ep := ep) (od := od) (knd := knd) (kvs := kvs)
    (R := fun (q : Result) (s' : Shared) => ∃ (h' : Heap) (c' : Nat), q = .ok (.ret (.ref s.heap.objs.size)) ∧ s' = { s with heap := h' } ∧
      (∀ b o, s.heap.get? b = some o → h'.get? b = some o) ∧ h'.get? s.heap.objs.size = some { cls := .type "list", dict := none, data := .seq (es.map (·.key)) c', slots := #[] })
    hh hsys (hm.push _) (Heap.get?_push_of_some _ ho) hdd hk s.heap.objs.size (Nat.ne_of_lt hd) (.ref s.heap.objs.size) 0 hS₁
    (fun h' c' hk2 hS' => ⟨h', c', rfl, rfl, fun b o e => hk2 b o (Nat.ne_of_lt (Heap.lt_size e)) (Heap.get?_push_of_some _ e), hS'⟩) hn
  have fin : ∀ (h' : Heap) (c' : Nat), (∀ b o, s.heap.get? b = some o → h'.get? b = some o) → h'.get? s.heap.objs.size = some { cls := .type "list", dict := none, data := .seq (es.map (·.key)) c', slots := #[] } → R (es.map (·.key)).toList { s with heap := h' } := fun h' c' hk2 hS' => by
    rw [Array.toList_map]
    exact h h' hk2 (Heap.lt_size hS')
  refine wpAny_mono key (fun fn s' x => ?_) fun e s' x => ?_
  · cases fn with
    | done f =>
      obtain ⟨h', c', e, rfl, hk2, hS'⟩ := x
      cases e
      show wpAny _ A (load s.heap.objs.size >>= _) _ _ _
      refine wpAny_bind (wpAny_load hS' ?_)
      exact wpAny_pure (fin h' c' hk2 hS')
    | again c₁ =>
      refine ⟨x.1, codeAny_mono x.2 fun q s₂ y => ?_⟩
      obtain ⟨h', c', rfl, rfl, hk2, hS'⟩ := y
      show wpAny _ A (load s.heap.objs.size >>= _) _ _ _
      refine wpAny_bind (wpAny_load hS' ?_)
      exact wpAny_pure (fin h' c' hk2 hS')
  · obtain ⟨_, _, e', _⟩ := x
    cases e'
end
section
variable {X : Cx}
theorem keys_of {P : Program} {w : World} : ∀ {es : List DictEntry} {kvs : List (Key × Value)}, Pairs (mixKind P w) es kvs → es.length = kvs.length ∧ ∀ ns : List Int, kvs.map (·.1) = ns.map Sum.inl → IntsAre (es.map (·.key)) ns
  | _, _, .nil => ⟨rfl, fun ns h => by
    cases ns with
    | nil => exact .nil
    | cons n ns => cases h⟩
  | _, _, .cons hk hv hp => by
    obtain ⟨h1, h2⟩ := keys_of hp
    refine ⟨by simp [h1], fun ns h => ?_⟩
    cases ns with
    | nil => cases h
    | cons n ns =>
      injection h with e1 e2
      dsimp only at e1
      rcases keyIs_shape hk with ⟨i, t, h3, h4⟩ | ⟨x, t, h3, h4⟩
      · rw [h3] at e1
        cases e1
        rw [List.map_cons, h4]
        exact .cons _ _ (h2 ns e2)
      · rw [h3] at e1
        cases e1
/-- sorted(d), the keys ints -/
def rSortedD : List V → Hp → VK → Prop := fun vs H Q => ∃ (a : Addr) (kvs : List (Key × V)) (ns : List Int), vs = [V.ref a] ∧ H a = some (.dK kvs) ∧ kvs.map (·.1) = ns.map Sum.inl ∧ ∀ ns' : List Int, ns'.Perm ns → ns'.Pairwise (· ≤ ·) → New (.lst (ns'.map V.int)) H Q
theorem cr_sortedD (hc : X.calm = true) : CallR X (.builtin "sorted") rSortedD := by
  intro pins s σ H vs us Q I r h
  obtain ⟨a, kvs, ns, rfl, ha, hk, q⟩ := h
  rw [Vals.ref1 r]
  obtain ⟨z, hsys, vs, rel, dd⟩ := dk_of I.hok ha
  obtain ⟨ep, dat⟩ := dd.dictAt
  obtain ⟨od, es, ho, hex, hdat, hks, hp, hnd⟩ := id dat
  obtain ⟨l1, hi⟩ := keys_of hp
  have ek : vs.map (·.1) = kvs.map (·.1) := by
    have : ∀ {kvs : List (Key × V)} {vs : List (Key × Value)}, KV kvs vs → vs.map (·.1) = kvs.map (·.1) := fun rel => by
      induction rel with
      | nil => rfl
      | cons h _ ih => rw [List.map_cons, List.map_cons, ih, h.1]
    exact this rel
  have hI := hi ns (ek.trans hk)
  have lk : vs.length = es.size := by rw [← l1, Array.length_toList]
  have lz : es.size ≤ sizeLine := by
    rw [← lk, ← List.length_map (f := (·.1)), ek, List.length_map]
    exact z
  refine Calls.call_function_entry kind_sorted plain_sorted entry_sorted (args_sorted1 _) ?_
  unfold Builtin.«sorted»
  refine wpAny_bind (m := checkCount "sorted" 1 1 _) (wpAny_pure ?_)
  refine wpAny_bind (collectD (A := X.A.in1) (I.ok.hd hc) hsys dat ho hdat lk lz fun h' hk' hlt => ?_)
  refine wpAny_bind (wpAny_newList ?_ (by rw [List.length_map, Array.length_toList]; exact lz))
  have hoL : (h'.push (seqObj "list" (es.toList.map (·.key)).toArray 0)).get? h'.objs.size = some (seqObj "list" (es.toList.map (·.key)).toArray 0) := Heap.get?_push_size _ rfl
  refine wpAny_bind (wpAny_holding (wpAny_call_entry PyProof.Rows.slot_list_sort ⟨_, hoL, rfl⟩ PyProof.Rows.entry_list_sort
    (SrtO.list_sort_ord SrtO.swo_int hoL (by rw [List.length_map, Array.length_toList]; exact lz) (fun h2 => SrtO.ints_sortable hI h2) fun out h1 h2 => ⟨_, rfl, ?_⟩) (PyProof.Rows.args_list_sort _)))
  obtain ⟨k1, k2, k3⟩ := SrtO.ints_out hI h1 h2
  obtain ⟨c, hc'⟩ := sortedHeap_at (vs := es.toList.map (·.key)) (out := out.toArray) hoL
  have hlen : ((out.map SrtO.iv).map V.int).length ≤ sizeLine := by
    rw [List.length_map, k2.length_eq, ← hI.length, List.length_map, Array.length_toList]
    exact lz
  have hle : s.heap.objs.size ≤ h'.objs.size := Nat.le_of_lt hlt
  have hn : H h'.objs.size = none := I.hok.fresh hle
  refine wpAny_pure ⟨_, rfl, .ref _, upd H h'.objs.size (.lst ((out.map SrtO.iv).map V.int)), I.laid (t' := s.toks) (fun b o e => ?_) hle ⟨hlen, out, c, vals_of_ints k1, hc'⟩, rfl, (q _ k2 k3).go _ hn⟩
  have e1 := hk' b o e
  have hb := Heap.lt_size e1
  rw [sortedHeap_old (Nat.ne_of_lt hb) (by rw [Heap.size_push]; exact Nat.lt_succ_of_lt hb)]
  exact Heap.get?_push_of_some _ e1
end
end My
set_option Elab.async false
set_option linter.all false
set_option maxRecDepth 100000
set_option maxHeartbeats 4000000
/-! dicts with int keys, as a list of keys and a function. -/
namespace My
open PySem L2
def kvsOf (ns : List Int) (g : Int → V) : List (Key × V) := ns.map fun n => (Sum.inl n, g n)
theorem kvs_keys (ns : List Int) (g : Int → V) : (kvsOf ns g).map (·.1) = ns.map Sum.inl := by
  unfold kvsOf
  rw [List.map_map]
  rfl
theorem kvs_len (ns : List Int) (g : Int → V) : (kvsOf ns g).length = ns.length := by
  unfold kvsOf
  rw [List.length_map]
theorem kvs_congr {ns : List Int} {g g' : Int → V} (h : ∀ n ∈ ns, g n = g' n) : kvsOf ns g = kvsOf ns g' := by
  unfold kvsOf
  exact List.map_congr_left fun n hn => by rw [h n hn]
theorem valV_kvs (g : Int → V) (k : Int) : ∀ ns : List Int, valV (kvsOf ns g) (Sum.inl k) = if k ∈ ns then some (g k) else none
  | [] => rfl
  | n :: ns => by
    show valV ((Sum.inl n, g n) :: kvsOf ns g) (Sum.inl k) = _
    by_cases e : n = k
    · subst e
      rw [valV_pos rfl, if_pos List.mem_cons_self]
    · rw [valV_neg (fun z => e (Sum.inl.inj z)), valV_kvs g k ns]
      by_cases m : k ∈ ns
      · rw [if_pos m, if_pos (List.mem_cons_of_mem _ m)]
      · rw [if_neg m, if_neg (fun z => by
          rcases List.mem_cons.mp z with z | z
          · exact e z.symm
          · exact m z)]
theorem any_kvs (g : Int → V) (k : Int) (ns : List Int) : ((kvsOf ns g).any fun kv => decide (kv.1 = Sum.inl k)) = decide (k ∈ ns) := by
  unfold kvsOf
  rw [List.any_map, Bool.eq_iff_iff, List.any_eq_true]
  constructor
  · rintro ⟨n, hn, e⟩
    have : n = k := by simpa using e
    subst this
    exact decide_eq_true hn
  · intro h
    exact ⟨k, of_decide_eq_true h, by simp⟩
theorem putK_kvs (g : Int → V) (k : Int) (v : V) (ns : List Int) : putK (kvsOf ns g) (Sum.inl k) v = kvsOf (if k ∈ ns then ns else ns ++ [k]) (fun n => if n = k then v else g n) := by
  unfold putK
  rw [any_kvs]
  by_cases m : k ∈ ns
  · rw [decide_eq_true m, if_pos rfl, if_pos m]
    unfold kvsOf
    rw [List.map_map]
    refine List.map_congr_left fun n hn => ?_
    show (if (Sum.inl n : Key) = Sum.inl k then ((Sum.inl n : Key), v) else (Sum.inl n, g n)) = (Sum.inl n, if n = k then v else g n)
    by_cases e : n = k
    · rw [if_pos (by rw [e]), if_pos e]
    · rw [if_neg (fun z => e (Sum.inl.inj z)), if_neg e]
  · rw [decide_eq_false m, if_neg Bool.false_ne_true, if_neg m]
    unfold kvsOf
    rw [List.map_append]
    congr 1
    · refine List.map_congr_left fun n hn => ?_
      have z : ¬ n = k := fun z => m (by rw [← z]; exact hn)
      show (Sum.inl n, g n) = (Sum.inl n, if n = k then v else g n)
      rw [if_neg z]
    · show [(Sum.inl k, v)] = [(Sum.inl k, if k = k then v else g k)]
      rw [if_pos rfl]
theorem dropK_kvs (g : Int → V) (k : Int) (ns : List Int) : dropK (kvsOf ns g) (Sum.inl k) = kvsOf (ns.filter fun n => decide (n ≠ k)) g := by
  unfold dropK kvsOf
  rw [List.filter_map]
  congr 1
  refine List.filter_congr fun n hn => ?_
  show decide ((Sum.inl n : Key) ≠ Sum.inl k) = decide (n ≠ k)
  rw [decide_eq_decide]
  exact ⟨fun h e => h (by rw [e]), fun h e => h (Sum.inl.inj e)⟩
theorem put_nodup {ns : List Int} (h : ns.Nodup) (k : Int) : (if k ∈ ns then ns else ns ++ [k]).Nodup := by
  split
  · exact h
  · rename_i m
    rw [List.nodup_append]
    exact ⟨h, by simp, fun a ha b hb => by
      have : b = k := by simpa using hb
      subst this
      exact fun e => m (e ▸ ha)⟩
theorem mem_put {ns : List Int} {k r : Int} : r ∈ (if k ∈ ns then ns else ns ++ [k]) ↔ r ∈ ns ∨ r = k := by
  split
  · rename_i m
    exact ⟨.inl, fun h => h.elim id fun e => e ▸ m⟩
  · simp
/-- two ascending lists without doubles of the same members are one -/
theorem asc_unique : ∀ {l m : List Int}, l.Pairwise (· < ·) → m.Pairwise (· < ·) → (∀ r, r ∈ l ↔ r ∈ m) → l = m
  | [], [], _, _, _ => rfl
  | [], y :: m, _, _, h => by
    have := (h y).mpr List.mem_cons_self
    cases this
  | x :: l, [], _, _, h => by
    have := (h x).mp List.mem_cons_self
    cases this
  | x :: l, y :: m, h1, h2, h => by
    obtain ⟨a1, a2⟩ := List.pairwise_cons.mp h1
    obtain ⟨b1, b2⟩ := List.pairwise_cons.mp h2
    have e : x = y := by
      rcases List.mem_cons.mp ((h x).mp List.mem_cons_self) with z | z
      · exact z
      · rcases List.mem_cons.mp ((h y).mpr List.mem_cons_self) with z' | z'
        · exact z'.symm
        · have := b1 x z
          have := a1 y z'
          omega
    subst e
    rw [asc_unique a2 b2 fun r => ?_]
    constructor
    · intro hr
      rcases List.mem_cons.mp ((h r).mp (List.mem_cons_of_mem _ hr)) with z | z
      · have := a1 r hr
        omega
      · exact z
    · intro hr
      rcases List.mem_cons.mp ((h r).mpr (List.mem_cons_of_mem _ hr)) with z | z
      · have := b1 r hr
        omega
      · exact z
theorem asc_of {ns ns' : List Int} (hp : ns'.Perm ns) (hs : ns'.Pairwise (· ≤ ·)) (hn : ns.Nodup) : ns'.Pairwise (· < ·) := by
  have hn' : ns'.Nodup := hp.nodup_iff.mpr hn
  exact (List.Pairwise.and hs hn').imp fun ⟨h1, h2⟩ => by omega
end My
namespace My
open PySem L2
/-- a dict comprehension over any walk -/
theorem dc_it {J : It} {n : Nat} {G : Hp → Prop} {Y : Nat → Hp → V → Hp → Prop} (w : Walk J n G Y) {g : TG} {tt : TT} {tk tv : TE} {vs : List Nat} {σ : L2.St} {H1 : Hp} {D : Addr} {Qd : Hp → Prop} (Pv : Nat → Hp → Prop) (h0 : Pv 0 (upd H1 D (.dK []))) (hG : ∀ i H, i ≤ n → Pv i H → G H)
    (hs : ∀ i x H H', i < n → Pv i H → Y i H x H' → g x (wipe σ vs) H' fun σ2 H2 => wipe σ2 vs = wipe σ vs ∧ tt σ2 H2 fun b H3 =>
      if b = true then tk σ2 H3 fun y H4 => tv σ2 H4 fun z H5 => ∃ kvs k, y = kV k ∧ H5 D = some (.dK kvs) ∧ kvs.length < sizeLine ∧ Pv (i + 1) (upd H5 D (.dK (putK kvs k z))) else Pv (i + 1) H3) (hd : ∀ H, Pv n H → Qd H) :
    ∃ W : Nat → Nat → Hp → Prop, (∃ m, W 0 m (upd H1 D (.dK []))) ∧ ∀ i m H, W i m H →
      (J.stop i H ∧ Qd H) ∨ (J.go i H ∧ ∃ Nx : Hp → Prop, (∀ H', Nx H' → ∃ m', m' < m ∧ W (i + 1) m' H') ∧ ∀ x H', J.yld i H x H' → g x (wipe σ vs) H' fun σ2 H2 => wipe σ2 vs = wipe σ vs ∧ tt σ2 H2 fun b H3 =>
        if b = true then tk σ2 H3 fun y H4 => tv σ2 H4 fun z H5 => ∃ kvs k, y = kV k ∧ H5 D = some (.dK kvs) ∧ kvs.length < sizeLine ∧ Nx (upd H5 D (.dK (putK kvs k z))) else Nx H3) := by
  refine ⟨fun i m H => m = n - i ∧ i ≤ n ∧ Pv i H, ⟨n, by simp, Nat.zero_le _, h0⟩, ?_⟩
  rintro i m H ⟨rfl, hi, p⟩
  have q := hG i H hi p
  by_cases hlt : i < n
  · exact .inr ⟨w.goes i H hlt q, Pv (i + 1), fun H' p' => ⟨n - (i + 1), by omega, rfl, hlt, p'⟩, fun x H' y => hs i x H H' hlt p (w.yields i H x H' hlt q y)⟩
  · have e : i = n := by omega
    subst e
    exact .inl ⟨w.stops H q, hd H p⟩
end My
namespace My
open PySem PySem.Spec PyProof.Rows L2
section
variable {X : Cx}
/-- x = {k: v for ..} -/
theorem ps_setDc {i : Nat} {y : Str} {py : Pos} {kx vx tg iter : Expr} {ifs : List Expr} {scope : Scope} {own : List (Str × Nat)} {pos spos : Pos} {wi : TI} {g : TG} {tt : TT} {tk tv : TE} (hc : X.calm = true) (hN : X.N.Nodup) (hy : X.N[i]? = some y) (hyl : X.env.scope.names.lookup y = some .local)
    (hsw : swapsWith (.DictComp kx vx [⟨tg, iter, ifs, 0⟩] scope pos) (some (.Name y py)) spos.line X.env = pure true) (hi : PI X tg iter wi) (ok : BlkOk X.N X.env.scope scope own)
    (hg : ∀ (s : Shared) (H : Hp) (C : Addr) (cl : List (Str × Addr)) (fp : List Addr), PG (X.blk s H scope (compEnvC scope cl C X.env) fp) tg g) (ht : ∀ (s : Shared) (H : Hp) (C : Addr) (cl : List (Str × Addr)) (fp : List Addr), PTs (X.blk s H scope (compEnvC scope cl C X.env) fp) ifs tt)
    (hk : ∀ (s : Shared) (H : Hp) (C : Addr) (cl : List (Str × Addr)) (fp : List Addr), PE (X.blk s H scope (compEnvC scope cl C X.env) fp) kx tk)
    (he : ∀ (s : Shared) (H : Hp) (C : Addr) (cl : List (Str × Addr)) (fp : List Addr), PE (X.blk s H scope (compEnvC scope cl C X.env) fp) vx tv) (hs : ∀ x, foldedSetIterable iter X.env x = pure x := by intro _; rfl) :
    PS X (.Assign [.Name y py] (.DictComp kx vx [⟨tg, iter, ifs, 0⟩] scope pos) spos) (tAsg (tDc wi g tt tk tv (own.map (·.2))) (gName i)) := by
  refine ⟨fun pins s σ H D I h => ?_⟩
  rw [exec_Assign_Name_used _ _ _ _ hsw]
  refine wpAny_bind (wpAny_standAt (wpAny_bind ?_))
  show wpAny _ X.A (do let _ ← comprehension (.DictComp kx vx [⟨tg, iter, ifs, 0⟩] scope pos) scope X.env (firstIterPos [⟨tg, iter, ifs, 0⟩] pos) newDict false (eval iter X.env) (some (assign (.Name y py) X.env))) _ _ s
  have h : tDc wi g tt tk tv (own.map (·.2)) σ H (fun x H1 => gName i x σ H1 D.nx) := h
  refine wpAny_bind (thn (dc_core (Qf := fun _ s' => SP X pins D .next s') hc hN I hi ok hg ht hk he hs h fun L C s' m H' I' q hn f => ?_) fun _ s' hq => wpAny_pure (wpAny_pure hq))
  show wpAny _ _ (assign (.Name y py) X.env (.ref L)) _ _ _
  refine wpAny_assign_Name (store_ok2 (v := V.ref L) I' hN hy (.inl hyl) rfl (fun s2 I2 ⟨a, sb, ha⟩ => ?_) (.inr hyl))
  obtain ⟨f0, f1, f2, f3, f4, f5⟩ := f
  have haC : C ≠ a := by
    rcases ha with z | z
    · rw [z]; exact f1
    · exact fun e => f4 y a z e.symm
  refine ⟨m, hn.sameBut sb haC, fun h3 sb3 => ?_⟩
  exact ⟨_, H', I2.turned (t' := s2.toks) (fun b o hb e => (sb3.2 b hb).trans e) f0 f1 f3 f4 f5, q⟩
theorem sw_trueD {kx vx : Expr} {gs : List Comprehension} {scope : Scope} {pos py : Pos} {y : Str} {l : Nat} {env : Env} (hk : env.scope.kind = .function) (hy : env.scope.names.lookup y = some .local) (hl : (py.line == pos.line) = true)
    (ha : (scope.names.any fun (n, k) => n == y && (k == .local || k == .cell)) = false) : swapsWith (.DictComp kx vx gs scope pos) (some (.Name y py)) l env = pure true := by
  have ky : env.kindOf y = some .local := hy
  have hb : env.blockKind = .function := by unfold Env.blockKind; rw [hk]; rfl
  unfold swapsWith
  simp only [hb, ky, ha, Expr.pos, hl]
  rfl
end
end My
namespace My
open PySem L2
theorem cut_mid (xs : List V) {n m : Nat} (h : m ≤ xs.length) : cutV xs (some (n : Int)) (some (m : Int)) = (xs.drop n).take (m - n) := by
  unfold cutV
  rw [HT.sIx_nat, HT.sIx_nat, Nat.min_eq_left h]
  by_cases h2 : n ≤ xs.length
  · rw [Nat.min_eq_left h2]
  · rw [Nat.min_eq_right (by omega), List.drop_eq_nil_of_le (Nat.le_refl _), List.drop_eq_nil_of_le (by omega), List.take_nil, List.take_nil]
theorem nodup_len : ∀ {l m : List Int}, l.Nodup → (∀ r ∈ l, r ∈ m) → l.length ≤ m.length
  | [], _, _, _ => Nat.zero_le _
  | x :: l, m, h, s => by
    obtain ⟨h1, h2⟩ := List.nodup_cons.mp h
    have hx := s x List.mem_cons_self
    have := nodup_len (m := m.erase x) h2 fun r hr => (List.mem_erase_of_ne (fun e : r = x => h1 (by rw [← e]; exact hr))).mpr (s r (List.mem_cons_of_mem _ hr))
    rw [List.length_erase_of_mem hx] at this
    have : 0 < m.length := List.length_pos_of_mem hx
    rw [List.length_cons]
    omega
/-- the keys of a dict of marks -/
structure FdOk (f : Int → Bool) (dom ks : List Int) : Prop where
  nd : ks.Nodup
  is : ∀ r, r ∈ ks ↔ f r = true
  dm : ∀ r ∈ ks, r ∈ dom
theorem FdOk.len {f : Int → Bool} {dom ks : List Int} (h : FdOk f dom ks) : ks.length ≤ dom.length := nodup_len h.nd h.dm
theorem FdOk.congr {f g : Int → Bool} {dom ks : List Int} (h : FdOk f dom ks) (e : ∀ r, f r = g r) : FdOk g dom ks := ⟨h.nd, fun r => by rw [h.is, e], h.dm⟩
theorem FdOk.put {f : Int → Bool} {dom ks : List Int} (h : FdOk f dom ks) {k : Int} (hk : k ∈ dom) : FdOk (fun r => if r = k then true else f r) dom (if k ∈ ks then ks else ks ++ [k]) :=
  ⟨put_nodup h.nd k, fun r => by
    rw [mem_put, h.is]
    by_cases e : r = k
    · simp [e]
    · simp [e], fun r hr => by
    rcases mem_put.mp hr with z | z
    · exact h.dm r z
    · exact z ▸ hk⟩
theorem FdOk.drop {f : Int → Bool} {dom ks : List Int} (h : FdOk f dom ks) (k : Int) : FdOk (fun r => if r = k then false else f r) dom (ks.filter fun n => decide (n ≠ k)) :=
  ⟨h.nd.sublist List.filter_sublist, fun r => by
    rw [List.mem_filter, h.is]
    by_cases e : r = k
    · simp [e]
    · simp [e], fun r hr => h.dm r (List.mem_filter.mp hr).1⟩
abbrev tt : Int → V := fun _ => .bl true
theorem putK_tt (k : Int) (ks : List Int) : putK (kvsOf ks tt) (Sum.inl k) (.bl true) = kvsOf (if k ∈ ks then ks else ks ++ [k]) tt := by
  rw [putK_kvs]
  exact kvs_congr fun n _ => by
    show (if n = k then V.bl true else .bl true) = .bl true
    split <;> rfl
theorem kvs_snoc (ks : List Int) (g : Int → V) (k : Int) (h : k ∉ ks) : putK (kvsOf ks g) (Sum.inl k) (g k) = kvsOf (ks ++ [k]) g := by
  rw [putK_kvs, if_neg h]
  exact kvs_congr fun n _ => by
    show (if n = k then g k else g n) = g n
    split
    · rename_i e
      rw [e]
    · rfl
theorem nodup_inj {ns : List Int} (h : ns.Nodup) {i j : Nat} (hi : i < ns.length) (hj : j < ns.length) (e : ns[i] = ns[j]) : i = j := by
  have hp := List.pairwise_iff_getElem.mp h
  rcases Nat.lt_trichotomy i j with z | z | z
  · exact absurd e (hp i j hi hj z)
  · exact z
  · exact absurd e.symm (hp j i hj hi z)
theorem nodup_take {ns : List Int} (h : ns.Nodup) (i : Nat) {x : Int} (hx : ns[i]? = some x) : x ∉ ns.take i := fun m => by
  obtain ⟨j, hj, e⟩ := List.getElem_of_mem m
  rw [List.length_take] at hj
  rw [List.getElem_take] at e
  obtain ⟨hi, e2⟩ := List.getElem?_eq_some_iff.mp hx
  have := nodup_inj h (i := j) (j := i) (by omega) hi (by rw [e, e2])
  omega
theorem idx_of {ns : List Int} (h : ns.Nodup) {i : Nat} {x : Int} (hx : ns[i]? = some x) : ns.idxOf x = i := by
  obtain ⟨hi, e2⟩ := List.getElem?_eq_some_iff.mp hx
  have hm : x ∈ ns := List.mem_of_getElem? hx
  have hlt := List.idxOf_lt_length_of_mem hm
  exact nodup_inj h (i := ns.idxOf x) (j := i) hlt hi (by rw [List.getElem_idxOf, e2])
theorem take_snoc {α : Type} {ns : List α} {i : Nat} {x : α} (hx : ns[i]? = some x) : ns.take (i + 1) = ns.take i ++ [x] := by
  rw [List.take_add_one, hx]
  rfl
theorem foldl_take {α β : Type} {f : β → α → β} {b : β} {cs : List α} {i : Nat} {c : α} (h : cs[i]? = some c) : (cs.take (i + 1)).foldl f b = f ((cs.take i).foldl f b) c := by
  rw [take_snoc h, List.foldl_append]
  rfl
theorem peBMK {X : Cx} {K : PySem.W.Frag} (h : X.K = K) {e : Expr} {T : String} {r : V → List V → Hp → VK → Prop} {to : TE} {t : TA} (p : PE X e (tBM X.K T r to t)) : PE X e (tBM K T r to t) := h ▸ p
theorem peBM0K {X : Cx} {K : PySem.W.Frag} (h : X.K = K) {e : Expr} {T : String} {r : V → List V → Hp → VK → Prop} {to : TE} (p : PE X e (tBM0 X.K T r to)) : PE X e (tBM0 K T r to) := h ▸ p
section
variable {X : Cx} {e : Expr} {te : L2.St → Hp → (Int → Int → Hp → Prop) → Prop}
def tCutR (te : L2.St → Hp → (Int → Int → Hp → Prop) → Prop) : L2.St → Hp → (Int → Int → Hp → Prop) → Prop := fun σ H Q => ∃ M : Int → Int → Hp → Prop, te σ H M ∧ ∀ a b H', M a b H' → Q a b H'
theorem prg_cut (h : PRg X e te) : PRg X e (tCutR te) := fun pins s σ H Q I ⟨M, hm, hq⟩ => thn (h pins s σ H M I hm) fun x s1 ⟨r, a, b, t, u, v, H', e1, e2, I1, q⟩ => ⟨r, a, b, t, u, v, H', e1, e2, I1, hq a b H' q⟩
def tLstRgG (te : L2.St → Hp → (Int → Int → Hp → Prop) → Prop) : TE := fun σ H Q => te σ H fun a b H1 => RgOk a b ∧ New (.lst (rgV a b)) H1 Q
/-- list(range(..)) -/
theorem pe_listRgG {p pos : Pos} (hc : X.calm = true) (hg : Gl X "list") (hm : X.mg "list" = none) (he : PRg X e te) (na : PySem.starEach [e] X.env = (false, PySem.eval e X.env) :: PySem.starEach [] X.env := by rfl) : PE X (.Call (.Name "list" p) [e] [] pos) (tLstRgG te) :=
  pe_weak (pe_listRg hc hg hm (prg_cut he) na) fun σ H Q q => ⟨_, q, fun _ _ _ z => ⟨z.1, fun p hp => z.2.go p hp⟩⟩
/-- the ints 0 .. n - 1 -/
def upN (n : Nat) : List Int := (List.range n).map fun i => ((i : Nat) : Int)
theorem rgV_upN (n : Nat) : rgV 0 (n : Int) = (upN n).map V.int := by
  unfold rgV upN
  rw [List.map_map]
  have e : ((n : Int) - 0).toNat = n := by omega
  rw [e]
  exact List.map_congr_left fun i _ => by
    show V.int (0 + (i : Int)) = V.int (i : Int)
    rw [Int.zero_add]
theorem upN_len (n : Nat) : (upN n).length = n := by
  unfold upN
  rw [List.length_map, List.length_range]
theorem upN_mem {n : Nat} {r : Int} (h : r ∈ upN n) : 0 ≤ r ∧ r < n := by
  unfold upN at h
  obtain ⟨i, hi, rfl⟩ := List.mem_map.mp h
  have := List.mem_range.mp hi
  omega
theorem upN_nodup (n : Nat) : (upN n).Nodup := by
  unfold upN
  show List.Pairwise _ _
  rw [List.pairwise_map]
  exact List.nodup_range.imp fun h => by omega
end
end My
set_option Elab.async false
set_option linter.all false
set_option maxRecDepth 100000
set_option maxHeartbeats 4000000
/-! repr: how long what is shown can be; repr of any data without dicts. -/
namespace My
open PySem PySem.Spec PyProof.Rows L2
/-- data that can be shown, no deeper than n, in at most M signs -/
structure Shw (d : PyData) (n M : Nat) : Prop where
  sh : d.showable = true
  nd : d.hasDict = false
  dp : d.depth ≤ n
  ln : d.shown.length ≤ M
theorem Shw.mono {d : PyData} {n m M L : Nat} (h : Shw d n M) (h1 : n ≤ m) (h2 : M ≤ L) : Shw d m L := ⟨h.sh, h.nd, Nat.le_trans h.dp h1, Nat.le_trans h.ln h2⟩
theorem log_of {i : Int} (h : i.natAbs < 2 ^ 1900) : i.natAbs.log2 < 1920 := by
  have := PySem.Flt.log2_lt_of (k := 1900) (by decide) h
  omega
theorem Shw.int {i : Int} (h : i.natAbs.log2 < 1920) : Shw (.int i) 0 1921 := ⟨decide_eq_true h, rfl, Nat.le_refl _, by
  show (Str.ofString (toString i)).length ≤ 1921
  rw [PySem.ofString_length]
  exact int_text_length_le (k := 1920) (by decide) h⟩
theorem Shw.none : Shw .none 0 4 := ⟨rfl, rfl, Nat.le_refl _, by decide⟩
theorem Shw.bool (b : Bool) : Shw (.bool b) 0 5 := ⟨rfl, rfl, Nat.le_refl _, by cases b <;> decide⟩
theorem textFrom_le : ∀ (ts : List Str) (k : Nat) (acc : Str), (textFrom k acc ts).length ≤ acc.length + piled ts
  | [], k, acc => by
    show acc.length ≤ acc.length + piled []
    omega
  | t :: r, k, acc => by
    have ih := textFrom_le r (k + 1) (acc ++ (if k > 0 then ", " else "" : String) ++ t)
    have l2 : (if k > 0 then 2 else 0) ≤ 2 := by split <;> omega
    have e : (acc ++ (if k > 0 then ", " else "" : String) ++ t).length = acc.length + (if k > 0 then 2 else 0) + t.length := by
      rw [Str.length_append, Str.length_append]
      split <;> rfl
    rw [e] at ih
    show (textFrom (k + 1) (acc ++ (if k > 0 then ", " else "" : String) ++ t) r).length ≤ _
    rw [piled_cons]
    omega
theorem piled_le {M : Nat} : ∀ ts : List Str, (∀ t ∈ ts, t.length ≤ M) → piled ts ≤ ts.length * (M + 2)
  | [], _ => Nat.zero_le _
  | t :: r, h => by
    have ih := piled_le r fun x hx => h x (List.mem_cons_of_mem _ hx)
    have := h t List.mem_cons_self
    rw [piled_cons, List.length_cons, Nat.succ_mul]
    omega
theorem all_of {n M : Nat} : ∀ {xs : List PyData}, (∀ x ∈ xs, Shw x n M) → PyData.showableAll xs = true ∧ PyData.hasDictAll xs = false ∧ PyData.depthAll xs ≤ n ∧ (PyData.shownAll xs).length = xs.length ∧ ∀ t ∈ PyData.shownAll xs, t.length ≤ M
  | [], _ => ⟨rfl, rfl, Nat.zero_le _, rfl, fun t ht => by cases ht⟩
  | x :: xs, h => by
    obtain ⟨h1, h2, h3, h4, h5⟩ := all_of (xs := xs) fun y hy => h y (List.mem_cons_of_mem _ hy)
    have hx := h x List.mem_cons_self
    refine ⟨?_, ?_, ?_, ?_, fun t ht => ?_⟩
    · show (PyData.showable x && PyData.showableAll xs) = true
      rw [hx.sh, h1]
      rfl
    · show (PyData.hasDict x || PyData.hasDictAll xs) = false
      rw [hx.nd, h2]
      rfl
    · exact Nat.max_le.mpr ⟨hx.dp, h3⟩
    · show (PyData.shownAll xs).length + 1 = xs.length + 1
      rw [h4]
    · rcases List.mem_cons.mp (show t ∈ PyData.shown x :: PyData.shownAll xs from ht) with z | z
      · rw [z]
        exact hx.ln
      · exact h5 t z
theorem Shw.list {n M : Nat} {xs : List PyData} (h : ∀ x ∈ xs, Shw x n M) : Shw (.list xs) (n + 1) (2 + xs.length * (M + 2)) := by
  obtain ⟨h1, h2, h3, h4, h5⟩ := all_of h
  refine ⟨h1, h2, by show PyData.depthAll xs + 1 ≤ n + 1; omega, ?_⟩
  show (textFrom 0 "[" (PyData.shownAll xs) ++ ("]" : Str)).length ≤ _
  have a := textFrom_le (PyData.shownAll xs) 0 "["
  have b := piled_le _ h5
  have e1 : ((("[" : String) : Str)).length = 1 := rfl
  have e2 : ((("]" : String) : Str)).length = 1 := rfl
  rw [Str.length_append, e2]
  rw [e1] at a
  rw [h4] at b
  omega
theorem Shw.tuple {n M : Nat} {xs : List PyData} (h : ∀ x ∈ xs, Shw x n M) : Shw (.tuple xs) (n + 1) (3 + xs.length * (M + 2)) := by
  obtain ⟨h1, h2, h3, h4, h5⟩ := all_of h
  refine ⟨h1, h2, by show PyData.depthAll xs + 1 ≤ n + 1; omega, ?_⟩
  show (tupleText (PyData.shownAll xs)).length ≤ _
  have b := piled_le _ h5
  unfold tupleText
  rw [Str.length_append, Str.length_append]
  have e1 : ((("(" : String) : Str)).length = 1 := rfl
  have e3 : (((if (PyData.shownAll xs).length == 1 then ",)" else ")" : String) : Str)).length ≤ 2 := by split <;> decide
  rw [e1]
  rw [h4] at b
  by_cases z : PyData.shownAll xs = []
  · rw [z] at e3 ⊢
    have : (Str.join ", " ([] : List Str)).length = 0 := rfl
    omega
  · have := join_length_add _ z
    omega
/-- ints within some bits -/
def Bd (b : Nat) (ns : List Int) : Prop := ∀ n ∈ ns, n.natAbs < 2 ^ b
theorem Shw.ints {b : Nat} {ns : List Int} (hb : b ≤ 1900) (h : Bd b ns) : Shw (eL PyData.int ns) 1 (2 + ns.length * 1923) := by
  have := Shw.list (n := 0) (M := 1921) (xs := ns.map PyData.int) fun x hx => by
    obtain ⟨n, hn, rfl⟩ := List.mem_map.mp hx
    exact Shw.int (log_of (Nat.lt_of_lt_of_le (h n hn) (Nat.pow_le_pow_right (by decide) hb)))
  rw [List.length_map] at this
  exact this
section
variable {X : Cx}
/-- repr of any data without dicts -/
def rReprA (K : PySem.W.Frag) : List V → Hp → VK → Prop := fun vs H Q => ∃ (v : V) (d : PyData), vs = [v] ∧ Dp K H v d ∧ Shw d 60 sizeLine ∧ Q (.str d.shown) H
theorem cr_reprA (gd : X.A.guards = some []) (hu : X.A.units + 64 < cLine) : CallR X (.builtin "repr") (rReprA X.K) := by
  intro pins s σ H vs us Q I r h
  obtain ⟨v, d, rfl, hd, sw, q⟩ := h
  obtain ⟨u, rfl, ru⟩ := vals1 r
  cases hd with
  | non =>
    cases ru
    exact PySem.P.repr_of_none ⟨.str _, H, I.tok _, ⟨_, rfl⟩, q⟩
  | bl b =>
    cases ru
    exact PySem.P.repr_of_bool ⟨.str _, H, I.tok _, ⟨_, rfl⟩, q⟩
  | int i =>
    obtain ⟨t, rfl⟩ := ru
    exact PySem.P.repr_of_int (of_decide_eq_true sw.sh) ⟨.str _, H, I.tok _, ⟨_, rfl⟩, q⟩
  | str x =>
    obtain ⟨t, rfl⟩ := ru
    exact PySem.P.repr_of_str ⟨.str _, H, I.tok _, ⟨_, rfl⟩, q⟩ sw.ln
  | lst h1 h2 => exact cr_repr gd hu pins s σ H _ _ Q I r ⟨_, _, rfl, .lst h1 h2, sw.sh, sw.nd, sw.dp, sw.ln, ⟨_, rfl⟩, q⟩
  | tup h1 h2 => exact cr_repr gd hu pins s σ H _ _ Q I r ⟨_, _, rfl, .tup h1 h2, sw.sh, sw.nd, sw.dp, sw.ln, ⟨_, rfl⟩, q⟩
end
end My
set_option Elab.async false
set_option linter.all false
set_option maxRecDepth 100000
set_option maxHeartbeats 4000000
/-! Own classes: len(o) by an own __len__, o == p and o != p by an own __eq__. -/
namespace My
open PySem PySem.Spec PyProof.Rows L2
section
variable {X : Cx} {CX : CXT} {n : Nat} {f C : Addr} {fd : FuncData} {ps : List Str} {sp : Sp} {E : XK}
/-- a def called with an around one deeper; what is raised does not leave -/
theorem run_in1 {pins : List (Addr × Obj)} {σ : L2.St} {H : Hp} {s : Shared} {Q : VK} {E' : Value → Shared → Prop} {us : List Value} {vs : List V} (F : FnOk X.prog X.w X.K X.mg X.base CX n f fd ps sp) (hr : Room (n + 1) X.A) (hb : Binds X.K fd ps []) (hx : Passes CX X.nox E)
    (I : Inv X pins σ H s) (r : Vals vs us) (h : sp vs H Q E) : wpAny (model X.prog X.w) X.A.in1 (call (.ref f) us) (EP X pins σ Q) E' s := by
  have hl : us.length = ps.length := by rw [← r.length]; exact F.len _ _ _ _ h
  have hb' := hb s us I.kIn (by rw [List.append_nil]; exact hl)
  rw [List.append_nil] at hb'
  refine wpAny_call (codeAny_mono (F.run X.A.in1 X.stack s H ⟨us, []⟩ us vs Q E hr.in1 I.env0.in1 hb' r h) fun r s' hq => ?_)
  cases r with
  | error er => exact False.elim (hx pins σ H s er s' (I.wish _) hq)
  | ok fl =>
    cases fl with
    | ret u => exact I.after hq
    | next => exact False.elim hq
    | brk => exact False.elim hq
    | cont => exact False.elim hq
def rLenO (C : Addr) (sp : Sp) (E : XK) : List V → Hp → VK → Prop := fun vs H Q => ∃ a dx fs, vs = [V.ref a] ∧ H a = some (.ins C dx fs) ∧ sp [.ref a] H (fun v H' => ∃ m : Int, v = .int m ∧ 0 ≤ m ∧ m < 2 ^ 63 ∧ Q (.int m) H') E
theorem cr_lenO (F : FnOk X.prog X.w X.K X.mg X.base CX n f fd ps sp) (hr : Room (n + 1) X.A) (hs : PySem.W.findIn X.K (.ref C) "__len__" = some (some (.ref f))) (hf : PySem.W.isFn X.K (.ref f) = true) (hb : Binds X.K fd ps []) (hx : Passes CX X.nox E) : CallR X (.builtin "len") (rLenO C sp E) := by
  intro pins s σ H vs us Q I r h
  obtain ⟨a, dx, fs, rfl, ha, h⟩ := h
  rw [Vals.ref1 r]
  obtain ⟨mA, J, _⟩ := ins_get I.hok ha
  obtain ⟨od, J, _⟩ := J.look
  obtain ⟨m, hF⟩ := I.fr
  refine PySem.W.len_K hF I.ok.mod.kin J hs hf (wpAny_mono (run_in1 (vs := [V.ref a]) F hr hb hx I (.cons rfl .nil) h) (fun u s' z => ?_) fun _ _ e => e)
  obtain ⟨v, H', I', rv, m, rfl, m0, m1, q⟩ := z
  obtain ⟨t, rfl⟩ := rv
  exact ⟨⟨m0, m1⟩, .int m, H', I'.tok _, ⟨_, rfl⟩, q⟩
def rEqO (C : Addr) (sp : Sp) (E : XK) : R2 := fun x y H Q => ∃ a b dx fs dy gs, x = .ref a ∧ y = .ref b ∧ H a = some (.ins C dx fs) ∧ H b = some (.ins C dy gs) ∧ sp [.ref a, .ref b] H (fun v H' => ∃ r : Bool, v = .bl r ∧ Q (.bl r) H') E
def rNeO (C : Addr) (sp : Sp) (E : XK) : R2 := fun x y H Q => ∃ a b dx fs dy gs, x = .ref a ∧ y = .ref b ∧ H a = some (.ins C dx fs) ∧ H b = some (.ins C dy gs) ∧ sp [.ref a, .ref b] H (fun v H' => ∃ r : Bool, v = .bl r ∧ Q (.bl (!r)) H') E
theorem run_here {pins : List (Addr × Obj)} {σ : L2.St} {H : Hp} {s : Shared} {Q : VK} {us : List Value} {vs : List V} (F : FnOk X.prog X.w X.K X.mg X.base CX n f fd ps sp) (hr : Room n X.A) (hb : Binds X.K fd ps []) (hx : Passes CX X E)
    (I : Inv X pins σ H s) (r : Vals vs us) (h : sp vs H Q E) : wpAny (model X.prog X.w) X.A (call (.ref f) us) (EP X pins σ Q) X.xe s := by
  have hl : us.length = ps.length := by rw [← r.length]; exact F.len _ _ _ _ h
  have hb' := hb s us I.kIn (by rw [List.append_nil]; exact hl)
  rw [List.append_nil] at hb'
  refine wpAny_call (codeAny_mono (F.run X.A X.stack s H ⟨us, []⟩ us vs Q E hr I.env0 hb' r h) fun r s' hq => ?_)
  cases r with
  | error er => exact hx pins σ H s er s' I hq
  | ok fl =>
    cases fl with
    | ret u => exact I.after hq
    | next => exact False.elim hq
    | brk => exact False.elim hq
    | cont => exact False.elim hq
theorem op_eqO (F : FnOk X.prog X.w X.K X.mg X.base CX n f fd ps sp) (hr : Room n X.A) (hs : PySem.W.findIn X.K (.ref C) "__eq__" = some (some (.ref f))) (hf : PySem.W.isFn X.K (.ref f) = true) (hb : Binds X.K fd ps []) (hx : Passes CX X E) : OpR X (compareOp .Eq) (rEqO C sp E) := by
  intro pins s σ H x y v u Q I rx ry h
  obtain ⟨a, b, dx, fs, dy, gs, rfl, rfl, ha, hb', h⟩ := h
  cases rx
  cases ry
  obtain ⟨mA, J, _⟩ := ins_get I.hok ha
  obtain ⟨mB, J', _⟩ := ins_get I.hok hb'
  obtain ⟨od, J, _⟩ := J.look
  obtain ⟨od', J', _⟩ := J'.look
  obtain ⟨m, hF⟩ := I.fr
  show wpAny (model X.prog X.w) X.A (richCompare .Eq (.ref a) (.ref b)) (EP X pins σ Q) X.xe s
  refine PySem.W.cmp_K (op := .Eq) (tb := .ref C) hr.units0 hF I.ok.mod.kin J J'.type (by simp [PySem.W.notFirst]) hs hf ?_
  refine wpAny_mono (run_here (vs := [V.ref a, V.ref b]) F hr hb hx I (.cons rfl (.cons rfl .nil)) h) (fun u s' z => ?_) fun _ _ e => e
  obtain ⟨v, H', I', rv, r, rfl, q⟩ := z
  cases rv
  exact ⟨.bl r, H', I', rfl, q⟩
theorem ifBound_objNe {M : Model} {A : Around} {E : Value → Shared → Prop} {s : Shared} {K : PySem.W.Frag} {x C : Addr} {ox : Obj} {od : Option Obj} {args : List Value} {Q : Option Value → Shared → Prop} (KX : K.In s.heap) (I : PySem.W.InstAt s.heap x ox C od) (hs : PySem.W.findIn K (.ref C) "__ne__" = some (some (.builtin "object.__ne__")))
    (h : wpAny M A (call (.builtin "object.__ne__") (.ref x :: args)) (fun v => Q (some v)) E s) : wpAny M A (callSpecialIfBound? (.ref x) "__ne__" args) Q E s := by
  simp only [callSpecialIfBound?, bindSpecialIfBound?]
  refine wpAny_holding (wpAny_bind (wpAny_bind (wpAny_bind (I.type.here ((PySem.W.looks_findIn KX hs).here ?_)))))
  refine wpAny_bind (wpAny_askSetting (wpAny_ite ?_))
  have fin : wpAny M A (call (.builtin "object.__ne__") ([.ref x] ++ args) >>= fun v => pure (some v)) Q E s := wpAny_bind (wpAny_mono h (fun v s' h' => wpAny_pure h') fun _ _ h' => h')
  split
  · exact wpAny_bind (wpAny_of_eq (F.cmp_object.ne.bind _) (wpAny_pure (by exact fin)))
  · exact wpAny_tryCatch (wpAny_bind (wpAny_of_eq (F.cmp_object.ne.bind _) (wpAny_pure (by exact fin))))
theorem op_neO (F : FnOk X.prog X.w X.K X.mg X.base CX n f fd ps sp) (hr : Room (n + 1) X.A) (hs : PySem.W.findIn X.K (.ref C) "__eq__" = some (some (.ref f))) (hn : PySem.W.findIn X.K (.ref C) "__ne__" = some (some (.builtin "object.__ne__"))) (hm : PySem.W.mroIn X.K C (.type "object") = some true) (hf : PySem.W.isFn X.K (.ref f) = true) (hb : Binds X.K fd ps []) (hx : Passes CX X.nox E) : OpR X (compareOp .NotEq) (rNeO C sp E) := by
  intro pins s σ H x y v u Q I rx ry h
  obtain ⟨a, b, dx, fs, dy, gs, rfl, rfl, ha, hb', h⟩ := h
  cases rx
  cases ry
  obtain ⟨mA, J, _⟩ := ins_get I.hok ha
  obtain ⟨mB, J', _⟩ := ins_get I.hok hb'
  obtain ⟨od, J, _⟩ := J.look
  obtain ⟨od', J', _⟩ := J'.look
  have KX := I.kIn
  show wpAny (model X.prog X.w) X.A (richCompare .NotEq (.ref a) (.ref b)) (EP X pins σ Q) X.xe s
  have one : wpAny (model X.prog X.w) X.A (tryCompare (.ref a) "__ne__" (.ref b)) (fun r s' => ∃ v, r = some v ∧ EP X pins σ Q v s') X.xe s := by
    unfold tryCompare
    refine wpAny_bind (ifBound_objNe KX J hn ?_)
    refine wpAny_call (codeAny_call_builtin PySem.F.cmp_object.ne.plain PySem.F.cmpEntry_ne (PySem.W.check_slot PySem.F.cmpKind_ne PySem.F.cmpSplit_ne (J.type.andThen (PySem.W.looks_mroIn KX hm)) (PySem.F.cmpArgs_ne _ _) ?_))
    unfold Builtin.«object.__ne__»
    refine wpAny_bind (wpAny_pure ?_)
    refine wpAny_bind (wpAny_cRoomFor (hr.in1).units0 ?_)
    refine wpAny_bind (m := callSpecialIfBound? (.ref a) (Str.ofString "__eq__") _) (PySem.W.ifBound_K KX J hs hf (wpAny_mono (run_in1 (vs := [V.ref a, V.ref b]) F hr hb hx I (.cons rfl (.cons rfl .nil)) h) (fun u s' z => ?_) fun _ _ e => e))
    obtain ⟨v, H', I', rv, r, rfl, q⟩ := z
    cases rv
    show wpAny _ X.A.in1 (truthy (.bool r) >>= _) _ _ s'
    refine wpAny_bind (wpAny_truthy_bool ?_)
    refine wpAny_pure ?_
    show wpAny _ X.A _ _ _ s'
    exact wpAny_pure ⟨_, rfl, .bl (!r), H', I', rfl, q⟩
  unfold richCompare
  simp only [oneThing_ref]
  refine wpAny_holding (wpAny_bind (wpAny_cRoomFor hr.units0 ?_))
  refine wpAny_bind (J.type.here (wpAny_bind (J'.type.here ?_)))
  split
  · rename_i q
    simp at q
  · refine wpAny_bind (wpAny_pure ?_)
    simp only [Bool.false_eq_true, if_false]
    refine wpAny_bind (wpAny_mono one (fun r s' z => ?_) fun _ _ e => e)
    obtain ⟨v, rfl, hq⟩ := z
    exact wpAny_pure hq
theorem pe_fldK {K : PySem.W.Frag} (h : X.K = K) {e : Expr} {g : Str} {ta : TE} (p : PE X e (tFld X.K ta g)) : PE X e (tFld K ta g) := h ▸ p
/-- tuple(x): of a list a new one, of a tuple itself -/
def rTupleA (K : PySem.W.Frag) : List V → Hp → VK → Prop := fun xs H Q => ∃ p ys, xs = [V.ref p] ∧ ((SqL K H p ys ∧ New (.tup ys) H Q) ∨ (SqT K H p ys ∧ Q (.ref p) H))
theorem call_tupleA : CallR X (.type "tuple") (rTupleA X.K) := fun pins s σ H xs us Q I r ⟨p, ys, h1, h2⟩ => call_tuple_of pins s σ H xs us Q I r ⟨p, ys, h1, h2.imp (fun z => ⟨z.1, fun l hl => z.2.go l hl⟩) id⟩
end
end My
set_option Elab.async false
set_option linter.all false
set_option maxRecDepth 100000
set_option maxHeartbeats 4000000
/-! sorted(xs) of any alike data (tuples, lists, texts, ints, nested), as a rule of the hand layer. -/
namespace My
open PySem PySem.Spec PyProof.Rows L2
open PySem.W (EachIs AllAlike Sortable dataKind sortVals KeyedOut dataLe)
/-- the values sorted by their data -/
def zsort (xs : List V) (ds : List PyData) : List V := ((xs.zip ds).mergeSort (dataLe false (·.2))).map (·.1)
def dsort (ds : List PyData) : List PyData := ds.mergeSort (dataLe false fun d => d)
theorem zsort_len {xs : List V} {ds : List PyData} (h : xs.length = ds.length) : (zsort xs ds).length = xs.length := by
  unfold zsort
  rw [List.length_map, List.length_mergeSort, List.length_zip, h, Nat.min_self]
theorem each_reads {h : Heap} : ∀ {vs : List Value} {ds : List PyData} {as : List Addr}, ReadsAll h vs ds as → EachIs (fun v d => ∃ as, Reads h v d as) vs ds
  | _, _, _, .nil => .nil
  | _, _, _, .cons h t => .cons ⟨_, h⟩ (each_reads t)
theorem each_vals : ∀ {us : List Value} {ps : List (V × PyData)}, EachIs (fun (u : Value) (p : V × PyData) => RelV p.1 u) us ps → Vals (ps.map (·.1)) us
  | _, _, .nil => .nil
  | _, _, .cons h t => .cons h (each_vals t)
theorem each_zip : ∀ {xs : List V} {us : List Value} {ds : List PyData}, Vals xs us → xs.length = ds.length → EachIs (fun (u : Value) (p : V × PyData) => RelV p.1 u) us (xs.zip ds)
  | _, _, [], .nil, _ => .nil
  | _, _, _ :: _, .nil, h => by cases h
  | _, _, [], .cons _ _, h => by cases h
  | _, _, _ :: _, .cons h t, e => .cons h (each_zip t (by simpa using e))
theorem dpLen {K : PySem.W.Frag} {H : Hp} : ∀ {xs : List V} {ds : List PyData}, DpAll K H xs ds → xs.length = ds.length
  | _, _, .nil => rfl
  | _, _, .cons _ t => by simp [dpLen t]
section
variable {X : Cx}
def rSortedA (K : PySem.W.Frag) : List V → Hp → VK → Prop := fun vs H Q => ∃ (a : Addr) (xs : List V) (ds : List PyData), vs = [V.ref a] ∧ SqL K H a xs ∧ DpAll K H xs ds ∧ AllAlike ds ∧ Sortable ds ∧ (∀ d ∈ ds, d.depth ≤ 60) ∧ New (.lst (zsort xs ds)) H Q
theorem cr_sortedA (hu : X.A.units + 64 < cLine) : CallR X (.builtin "sorted") (rSortedA X.K) := by
  intro pins s σ H vs us Q I r h
  obtain ⟨a, xs, ds, rfl, hs, hd, hal, hso, hdep, q⟩ := h
  obtain ⟨its, rv, hl, hz⟩ := I.list hs
  rw [Vals.ref1 r]
  obtain ⟨as, hr⟩ := Dp.readsAll I ds xs its hd rv
  have hlen := dpLen hd
  have e0 := each_reads hr
  have e1 : EachIs (fun v d => ∃ as, Reads (PySem.W.sortingHeap (PySem.W.copyHeap s.heap its) (s.heap.objs.size + 1) its) v d as) its ds := e0.mono fun v d ⟨as, z⟩ => ⟨as, Reads.keeps (fun b o e => PySem.W.sorting_copy_old e) z⟩
  refine PySem.W.sorted_vals (κ := dataKind (PySem.W.sortingHeap (PySem.W.copyHeap s.heap its) (s.heap.objs.size + 1) its) ds) hl.isList (PySem.W.SortsAt.data (s := { s with heap := PySem.W.sortingHeap (PySem.W.copyHeap s.heap its) (s.heap.objs.size + 1) its }) e1 hal hso fun d m => ?_) (by rw [← rv.length]; exact hz) ?_
  · show X.A.units + 1 + 1 + d.depth < cLine
    have := hdep d m
    omega
  · have ez : (xs.zip ds).map (·.2) = ds := by
      rw [← List.zip_unzip (xs.zip ds)]
      simp [List.map_snd_zip, hlen]
    have ko : KeyedOut false ((xs.zip ds).map (·.2)) its (sortVals (dataKind (PySem.W.sortingHeap (PySem.W.copyHeap s.heap its) (s.heap.objs.size + 1) its) ds) false its its) := by
      rw [ez]
      exact ⟨_, its, hal, rfl, e1⟩
    have ev := each_vals (PySem.W.keyedOut_each (·.2) ko (each_zip rv hlen))
    obtain ⟨n, hn⟩ := sortedAll_at s.heap its (sortVals (dataKind (PySem.W.sortingHeap (PySem.W.copyHeap s.heap its) (s.heap.objs.size + 1) its) ds) false its its).toArray
    refine ⟨.ref _, upd H _ (.lst (zsort xs ds)), I.laid (t' := s.toks) (fun b o e => sortedAll_old e) (Nat.le_succ _) ⟨?_, _, n, ev, hn⟩, rfl, q.go _ (I.hok.fresh (Nat.le_succ _))⟩
    rw [zsort_len hlen]
    exact hz
/-- xs[::-1] -/
def tRevG (K : PySem.W.Frag) (te : TE) : TE := fun σ H Q => te σ H fun x H1 => ∃ a xs, x = .ref a ∧ SqL K H1 a xs ∧ New (.lst xs.reverse) H1 Q
theorem pe_revG {e : Expr} {te : TE} {k : Nat} {p1 p2 p3 pos : Pos} (he : PE X e te) : PE X (.Subscript e (.Slice none none (some (.UnaryOp .USub (.Constant (.int 1) k p1) p2)) p3) pos) (tRevG X.K te) :=
  pe_weak (pe_revL (pe_cut he)) fun σ H Q q => ⟨_, q, fun _ _ ⟨a, xs, h1, h2, h3⟩ => ⟨a, xs, h1, h2, fun p hp => h3.go p hp⟩⟩
theorem pe_revK {K : PySem.W.Frag} (h : X.K = K) {e : Expr} {te : TE} {k : Nat} {p1 p2 p3 pos : Pos} (he : PE X e te) : PE X (.Subscript e (.Slice none none (some (.UnaryOp .USub (.Constant (.int 1) k p1) p2)) p3) pos) (tRevG K te) := h ▸ pe_revG he
end
end My
set_option Elab.async false
set_option linter.all false
set_option maxRecDepth 100000
set_option maxHeartbeats 4000000
/-! sorted(xs, key=f), f an object whose calls the hand layer walks; the keys are any alike data, lists too. -/
namespace My
open PySem PySem.Spec PyProof.Rows L2
open PySem.W (EachIs AllAlike Sortable dataKind sortVals KeyedOut dataLe KeepsBut copyHeap)
mutual
theorem Dp.exN {K : PySem.W.Frag} {H H' : Hp} (e : Evl.Ex H H') : ∀ (d : PyData) (v : V), Dp K H v d → Dp K H' v d
  | .none, _, h => by cases h; exact .non
  | .bool _, _, h => by cases h; exact .bl _
  | .int _, _, h => by cases h; exact .int _
  | .str _, _, h => by cases h; exact .str _
  | .list ds, _, h => by
    cases h with
    | lst h1 h2 => exact .lst (Evl.ex_l e h1) (DpAll.exN e ds _ h2)
  | .tuple ds, _, h => by
    cases h with
    | tup h1 h2 => exact .tup (Evl.ex_t e h1) (DpAll.exN e ds _ h2)
  | .dict _, _, h => by cases h
theorem DpAll.exN {K : PySem.W.Frag} {H H' : Hp} (e : Evl.Ex H H') : ∀ (ds : List PyData) (vs : List V), DpAll K H vs ds → DpAll K H' vs ds
  | [], _, h => by cases h; exact .nil
  | d :: ds, _, h => by
    cases h with
    | cons h1 h2 => exact .cons (Dp.exN e d _ h1) (DpAll.exN e ds _ h2)
end
theorem dpAll_snoc {K : PySem.W.Frag} {H : Hp} {v : V} {d : PyData} (h : Dp K H v d) : ∀ {vs : List V} {ds : List PyData}, DpAll K H vs ds → DpAll K H (vs ++ [v]) (ds ++ [d])
  | _, _, .nil => .cons h .nil
  | _, _, .cons a b => .cons a (dpAll_snoc h b)
theorem vals_snoc {v : V} {u : Value} (h : RelV v u) : ∀ {vs : List V} {us : List Value}, Vals vs us → Vals (vs ++ [v]) (us ++ [u])
  | _, _, .nil => .cons h .nil
  | _, _, .cons a b => .cons a (vals_snoc h b)
section
variable {X : Cx} {pins : List (Addr × Obj)} {σ : L2.St} {H : Hp} {s : Shared}
/-- an address beyond all that the walk knows by itself -/
def Beyond (X : Cx) (pins : List (Addr × Obj)) (b : Addr) : Prop := (b ∈ X.ex ∨ X.s_0.heap.objs.size ≤ b) ∧ b ≠ X.env.locals ∧ (∀ x c, X.env.cells.lookup x = some c → c ≠ b) ∧ ∀ p ∈ X.pn ++ pins, p.1 ≠ b
theorem beyond_of (I : Inv X pins σ H s) {b : Addr} (hb : s.heap.objs.size ≤ b) : Beyond X pins b := by
  refine ⟨.inr (Nat.le_trans I.sz hb), fun z => ?_, fun x c e z => ?_, fun p hp z => ?_⟩
  · exact Nat.lt_irrefl _ (Nat.lt_of_lt_of_le I.lt (z ▸ hb))
  · obtain ⟨v, o, ho, _⟩ := I.cell x c e
    exact Nat.lt_irrefl _ (Nat.lt_of_lt_of_le (Heap.lt_size ho) (z ▸ hb))
  · exact Nat.lt_irrefl _ (Nat.lt_of_lt_of_le (Heap.lt_size (I.pin p hp).1) (z ▸ hb))
theorem nofr_of (I : Inv X pins σ H s) {b : Addr} (hb : s.heap.objs.size ≤ b) : b ∉ frs X.stack := fun z => by
  rcases List.mem_cons.mp (I.stkSub _ z) with y | y
  · exact Nat.lt_irrefl _ (Nat.lt_of_lt_of_le I.lt (y ▸ hb))
  · exact I.nofs hb y
/-- objects that nobody tracks are changed -/
theorem inv_touch {ch : List Addr} {h2 : Heap} {t2 : Nat} (I : Inv X pins σ H s) (hc : ∀ b ∈ ch, Beyond X pins b) (hn : ∀ b ∈ ch, H b = none) (kp : ∀ b o, b ∉ ch → s.heap.get? b = some o → h2.get? b = some o) : Inv X pins σ H { s with heap := h2, toks := t2 } := by
  have locs : X.env.locals ∉ ch := fun z => (hc _ z).2.1 rfl
  refine I.step (g' := s.gens) (d' := s.drawn) (ch := ch) hc (fun b o _ _ hb e _ => kp b o hb e) (fun b o _ _ hb e _ => ⟨o.slots, kp b o hb e⟩) (fun b o _ _ n => n) (fun b o hb e => ⟨o, kp b o hb e⟩) (fun b xs e => e) (fun b o u e => e) (fun b ps e => ⟨#[], by simpa using e⟩) (fun m hm => ?_) (fun b u e => ?_) I.bare
  · obtain ⟨o, es, ep, ho, r⟩ := hm
    exact ⟨o, es, ep, kp _ o locs ho, r⟩
  · have hb : b ∉ ch := fun z => by rw [hn b z] at e; cases e
    refine (I.hok b u e).stay (fun c v hd q => kp c v ?_ q) (fun _ q => q) (fun _ _ q => q)
    rcases hd with z | z
    · rw [z]
      exact hb
    · intro y
      rw [hn c y] at z
      cases z
/-- .. and one of them is tracked from now on -/
theorem inv_track {ch : List Addr} {h2 : Heap} {t2 : Nat} {a : Addr} {u0 : HO} (I : Inv X pins σ H s) (hc : ∀ b ∈ ch, Beyond X pins b) (hn : ∀ b ∈ ch, H b = none) (ha : a ∈ ch) (kp : ∀ b o, b ∉ ch → s.heap.get? b = some o → h2.get? b = some o) (new : ObjOk X.prog X.w (upd H a u0) h2 a u0) : Inv X pins σ (upd H a u0) { s with heap := h2, toks := t2 } := by
  have locs : X.env.locals ∉ ch := fun z => (hc _ z).2.1 rfl
  have na := hn a ha
  have at_ : ∀ b u, H b = some u → upd H a u0 b = some u := fun b u e => by
    rw [upd_ne (ne_of_none e na)]
    exact e
  refine I.step (g' := s.gens) (d' := s.drawn) (ch := ch) hc (fun b o _ _ hb e _ => kp b o hb e) (fun b o _ _ hb e _ => ⟨o.slots, kp b o hb e⟩) (fun b o hb _ n => ?_) (fun b o hb e => ⟨o, kp b o hb e⟩) (fun b xs e => at_ _ _ e) (fun b o u e => at_ _ _ e) (fun b ps e => ⟨#[], by simpa using at_ _ _ e⟩) (fun m hm => ?_) (fun b u e => ?_) I.bare
  · rw [upd_ne (fun z => hb (by rw [z]; exact ha))]
    exact n
  · obtain ⟨o, es, ep, ho, r⟩ := hm
    exact ⟨o, es, ep, kp _ o locs ho, r⟩
  · by_cases z : b = a
    · rw [z, upd_same] at e
      cases e
      rw [z]
      exact new
    · rw [upd_ne z] at e
      have hb : b ∉ ch := fun y => by rw [hn b y] at e; cases e
      refine (I.hok b u e).stay (fun c v hd q => kp c v ?_ q) (fun c q => at_ _ _ q) (fun c xs q => at_ _ _ q)
      rcases hd with y | y
      · rw [y]
        exact hb
      · intro x
        rw [hn c x] at y
        cases y
/-- what a call leaves as it was -/
def Raw (X : Cx) (H : Hp) (s : Shared) (H' : Hp) (s' : Shared) : Prop := ∀ b o, s.heap.get? b = some o → H b = none → b ∉ frs X.stack → s'.heap.get? b = some o ∧ H' b = none
/-- a call f(u) gives the key d -/
def Keys (X : Cx) (pins : List (Addr × Obj)) (σ : L2.St) (H : Hp) (s : Shared) (f : Addr) (x : V) (d : PyData) : Prop := ∀ (u : Value) (s1 : Shared) (H1 : Hp), Inv X pins σ H1 s1 → Evl.Ex H H1 → Raw X H s H1 s1 → RelV x u →
  wpAny (model X.prog X.w) X.A.in1.in1 (call (.ref f) [u]) (fun v s2 => ∃ w H2, Inv X pins σ H2 s2 ∧ Evl.Ex H1 H2 ∧ RelV w v ∧ Dp X.K H2 w d ∧ Raw X H1 s1 H2 s2) (fun _ _ => False) s1
theorem Raw.trans {H1 H2 : Hp} {s1 s2 : Shared} (a : Raw X H s H1 s1) (b : Raw X H1 s1 H2 s2) : Raw X H s H2 s2 := fun c o h1 h2 h3 => let ⟨k1, k2⟩ := a c o h1 h2 h3; b c o k1 k2 h3
theorem key_sorted (hu : X.A.units + 70 < cLine) (I : Inv X pins σ H s) {l f : Addr} {xs : List V} {ks : List PyData} (hs : SqL X.K H l xs) (hlen : xs.length = ks.length) (hal : AllAlike ks) (hso : Sortable ks) (hd : ∀ d ∈ ks, d.depth ≤ 60) {Q : VK}
    (turn : ∀ (i : Nat) (x : V) (d : PyData), xs[i]? = some x → ks[i]? = some d → Keys X pins σ H s f x d) (q : ∀ p H', H p = none → Evl.Ex H H' → H' p = some (.lst (zsort xs ks)) → Q (.ref p) H') :
    wpAny (model X.prog X.w) X.A (call (.builtin "sorted") [.ref l] [(Str.ofString "key", .ref f)]) (EP X pins σ Q) X.xe s := by
  obtain ⟨its, rv, hl, hz⟩ := I.list hs
  have ilen : its.length = ks.length := by rw [← rv.length, hlen]
  have iz : its.length ≤ sizeLine := by rw [← rv.length]; exact hz
  obtain ⟨a, ea⟩ : ∃ a : Nat, a = s.heap.objs.size + 1 := ⟨_, rfl⟩
  refine PySem.W.sorted_of_sort hl.isList iz (ksk_s1 _ _) (fun _ => ksk_l1 _ _) fun E' => ?_
  rw [ksk_t1, ← ea]
  have hoA := PySem.W.copyHeap_at s.heap its
  rw [← ea] at hoA
  have oldA : ∀ b o, s.heap.get? b = some o → (copyHeap s.heap its).get? b = some o := fun b o e => PySem.W.copyHeap_old e
  generalize copyHeap s.heap its = hA at hoA oldA ⊢
  -- the list is emptied, a tuple and a list are made
  obtain ⟨ep1, ho1⟩ : ∃ ep1, (hA.update a (Obj.mapSeq fun _ => (#[] : Array Value))).get? a = some (seqObj "list" #[] ep1) := ⟨_, get?_update_seq hoA fun _ => #[]⟩
  have nebig : ∀ {b : Addr} {o : Obj}, s.heap.get? b = some o → a ≠ b := fun {b o} e y => by
    have h1 : b < s.heap.objs.size := Heap.lt_size e
    rw [← y, ea] at h1
    exact Nat.not_succ_lt_self h1
  have keepA : ∀ b o, s.heap.get? b = some o → (hA.update a (Obj.mapSeq fun _ => (#[] : Array Value))).get? b = some o := fun b o e => by
    rw [Heap.get?_update_ne _ _ _ _ (fun y => nebig e y.symm)]
    exact oldA b o e
  have szA : a < hA.objs.size := Heap.lt_size hoA
  unfold ksk_tree
  refine wpAny_bind (listItems_at hoA rfl ?_)
  refine wpAny_bind (listUpdate_at hoA rfl ?_ (by simpa using iz) (Nat.zero_le _))
  refine wpAny_bind (seqEpoch_at ho1 rfl ?_)
  refine wpAny_bind (wpAny_newTuple ?_ (by simpa using iz))
  refine wpAny_bind (wpAny_newList ?_ (Nat.zero_le _))
  refine wpAny_holding ?_
  obtain ⟨hB, ehB⟩ : ∃ hB, hB = (hA.update a (Obj.mapSeq fun _ => (#[] : Array Value))).push (seqObj "tuple" its.toArray 0) := ⟨_, rfl⟩
  obtain ⟨z, ez⟩ : ∃ z : Nat, z = hB.objs.size := ⟨_, rfl⟩
  have szB : hB.objs.size = hA.objs.size + 1 := by rw [ehB, size_push', Heap.size_update]
  have za : z ≠ a := by omega
  show wpAny (model X.prog X.w) X.A.in1.in1 (ksk_rest a (.ref f) false its.toArray ep1 (.ref ((hA.update a (Obj.mapSeq fun _ => (#[] : Array Value))).push (seqObj "tuple" its.toArray 0)).objs.size)) _ _ { s with heap := ((hA.update a (Obj.mapSeq fun _ => (#[] : Array Value))).push (seqObj "tuple" its.toArray 0)).push (seqObj "list" #[] 0) }
  rw [← ehB, ← ez]
  have atZ : (hB.push (seqObj "list" #[] 0)).get? z = some (seqObj "list" #[] 0) := by rw [ez]; exact Heap.get?_push_size _ rfl
  have atA : (hB.push (seqObj "list" #[] 0)).get? a = some (seqObj "list" #[] ep1) := Heap.get?_push_of_some _ (by rw [ehB]; exact Heap.get?_push_of_some _ ho1)
  have keepB : ∀ b o, s.heap.get? b = some o → (hB.push (seqObj "list" #[] 0)).get? b = some o := fun b o e => Heap.get?_push_of_some _ (by rw [ehB]; exact Heap.get?_push_of_some _ (keepA b o e))
  generalize hB.push (seqObj "list" #[] 0) = hC at atZ atA keepB ⊢
  have szS : s.heap.objs.size ≤ a ∧ s.heap.objs.size ≤ z := ⟨by omega, by omega⟩
  have bA := beyond_of I szS.1
  have bZ := beyond_of I szS.2
  have fA := nofr_of I szS.1
  have fZ := nofr_of I szS.2
  have nA : H a = none := I.hok.fresh szS.1
  have nZ : H z = none := I.hok.fresh szS.2
  have IC : Inv X pins σ H { s with heap := hC } := I.kept (t' := s.toks) keepB
  have R0 : Raw X H s H { s with heap := hC } := fun b o e n _ => ⟨keepB b o e, n⟩
  -- the fold
  unfold ksk_rest
  refine wpAny_bind (wpAny_rule ?_)
  first
    | rw [List.forIn_toArray]
    | (rw [← Array.forIn_toList]; simp only [List.toList_toArray])
    | rw [← Array.forIn_toList]
  refine wpAny_bind (ksk_fold (fun i s1 => ∃ (H1 : Hp) (kA : Array Value) (e1 : Nat) (ws : List V), Inv X pins σ H1 s1 ∧ Evl.Ex H H1 ∧ Raw X H s H1 s1 ∧ s1.heap.get? z = some (seqObj "list" kA e1) ∧ s1.heap.get? a = some (seqObj "list" #[] ep1) ∧ H1 a = none ∧ H1 z = none ∧ Vals ws kA.toList ∧ DpAll X.K H1 ws (ks.take i)) its 0 _
    ⟨H, #[], 0, [], IC, Evl.Ex.refl _, R0, atZ, atA, nA, nZ, .nil, by rw [List.take_zero]; exact .nil⟩ ?step ?done)
  case step =>
    rintro j u s1 hj ⟨H1, kA, e1, ws, I1, x1, R1, hZ1, hA1, nA1, nZ1, v1, d1⟩
    simp only [Nat.zero_add] at d1 ⊢
    have jl : j < its.length := (List.getElem?_eq_some_iff.mp hj).1
    obtain ⟨d, hdj⟩ : ∃ d, ks[j]? = some d := ⟨_, List.getElem?_eq_getElem (by omega)⟩
    obtain ⟨x, hx⟩ : ∃ x, xs[j]? = some x := ⟨_, List.getElem?_eq_getElem (by omega)⟩
    obtain ⟨u', hu', ru⟩ := rv.get hx
    rw [hj] at hu'
    cases hu'
    have kz : kA.size ≤ its.length := by
      have h1 : ws.length = kA.size := v1.length
      have h2 := dpLen d1
      rw [List.length_take] at h2
      omega
    refine wpAny_bind (wpAny_attempt (wpAny_mono (turn j x d hx hdj u s1 H1 I1 x1 R1 ru) (fun v s2 h2 => ?_) fun _ _ hF => hF.elim))
    obtain ⟨wv, H2, I2, x2, rw2, dp2, R2⟩ := h2
    obtain ⟨hZ2, nZ2⟩ := R2 _ _ hZ1 nZ1 fZ
    obtain ⟨hA2, nA2⟩ := R2 _ _ hA1 nA1 fA
    obtain ⟨e3, hZ3⟩ : ∃ e3, (s2.heap.update z (Obj.mapSeq (·.push v))).get? z = some (seqObj "list" (kA.push v) e3) := ⟨_, get?_update_seq hZ2 (·.push v)⟩
    have keep3 : ∀ b o, b ∉ [z] → s2.heap.get? b = some o → (s2.heap.update z (Obj.mapSeq (·.push v))).get? b = some o := fun b o hb e => by
      rw [Heap.get?_update_ne _ _ _ _ (fun y => hb (List.mem_singleton.mpr y))]
      exact e
    try dsimp only
    refine wpAny_bind (listUpdate_at hZ2 rfl ?_ (Nat.le_trans kz iz) (by rw [Array.size_push]; omega))
    refine wpAny_pure ⟨rfl, H2, kA.push v, e3, ws ++ [wv], inv_touch (t2 := s2.toks) I2 (fun b hb => by rw [List.mem_singleton.mp hb]; exact bZ) (fun b hb => by rw [List.mem_singleton.mp hb]; exact nZ2) keep3, x1.trans x2, ?_, hZ3, keep3 _ _ (by simpa using za.symm) hA2, nA2, nZ2, ?_, ?_⟩
    · intro b o h1 h2 h3
      obtain ⟨k1, k2⟩ := (R1.trans R2) b o h1 h2 h3
      exact ⟨keep3 b o (fun y => Nat.lt_irrefl _ (Nat.lt_of_lt_of_le (Heap.lt_size h1) (List.mem_singleton.mp y ▸ szS.2))) k1, k2⟩
    · rw [show (kA.push v).toList = kA.toList ++ [v] by simp]
      exact vals_snoc rw2 v1
    · rw [show ks.take (j + 1) = ks.take j ++ [d] by rw [List.take_add_one, hdj]; simp]
      exact dpAll_snoc dp2 (DpAll.exN x2 _ _ d1)
  case done =>
    rintro s1 ⟨H1, kA, e1, ws, I1, x1, R1, hZ1, hA1, nA1, nZ1, v1, d1⟩
    have et : ks.take (0 + its.length) = ks := List.take_of_length_le (by omega)
    rw [et] at d1
    have kz : kA.size = its.length := by
      have h1 : ws.length = kA.size := v1.length
      have h2 := dpLen d1
      omega
    obtain ⟨as, hr⟩ := Dp.readsAll I1 ks ws kA.toList d1 v1
    have er := each_reads hr
    try dsimp only
    refine wpAny_bind (listItems_at hZ1 rfl ?_)
    have kp0 : KeepsBut a (PySem.W.hideAll s1.heap [z]) s1.heap := fun b o _ e => PySem.W.of_hideAll _ e
    refine PySem.W.keyH_end (κ := dataKind s1.heap ks) (h₁ := PySem.W.hideAll s1.heap [z]) kp0 (PySem.W.hideAll_none _ (by simp)) hZ1 hA1 za (PySem.W.SortsAt.data er hal hso fun d m => ?_) kz iz fun h2 tk2 c2 k2 n2 => ⟨rfl, ?_⟩
    · show X.A.units + 1 + 1 + d.depth < cLine
      have := hd d m
      omega
    have ez2 : (xs.zip ks).map (·.2) = ks := by
      rw [← List.zip_unzip (xs.zip ks)]
      simp [List.map_snd_zip, hlen]
    have ko : KeyedOut false ((xs.zip ks).map (·.2)) its (sortVals (dataKind s1.heap ks) false kA.toList its) := by
      rw [ez2]
      exact ⟨s1.heap, kA.toList, hal, rfl, er⟩
    have ev := each_vals (PySem.W.keyedOut_each (·.2) ko (each_zip rv hlen))
    have keep2 : ∀ b o, b ∉ [a, z] → s1.heap.get? b = some o → h2.get? b = some o := fun b o hb e => by
      simp only [List.mem_cons, List.not_mem_nil, or_false, not_or] at hb
      exact k2 b o hb.1 (PySem.W.hideAll_get _ e (by simpa using hb.2))
    have hzl : (zsort xs ks).length ≤ sizeLine := by
      rw [zsort_len hlen]
      exact hz
    have I2 := inv_track (t2 := tk2) (ch := [a, z]) (a := a) (u0 := .lst (zsort xs ks)) I1 (fun b hb => by
      rcases List.mem_cons.mp hb with y | y
      · rw [y]; exact bA
      · rw [List.mem_singleton.mp y]; exact bZ) (fun b hb => by
      rcases List.mem_cons.mp hb with y | y
      · rw [y]; exact nA1
      · rw [List.mem_singleton.mp y]; exact nZ1) List.mem_cons_self keep2 ⟨hzl, _, c2, ev, n2⟩
    exact ⟨.ref a, _, I2, rfl, q a _ nA (Evl.Ex.mut x1 nA) upd_same⟩
end
end My
set_option Elab.async false
set_option linter.all false
set_option maxRecDepth 100000
set_option maxHeartbeats 4000000
/-! sorted(xs, key=lambda p: body): the lambda has one parameter (perhaps a cell) and captures names; its object is made, called, forgotten. -/
namespace My
open PySem PySem.Spec PyProof.Rows L2
open PySem.W (AllAlike Sortable)
open LamX (CodeO TabS Tabs ExtN TabB)
open NdefX (CellsAt startF slotAt Caps cells_of)
/-! ### names: the parameter, the captured ones, the rest -/
structure LScope (N : List Str) (p : Str) (fr : List Str) (sc : Scope) : Prop where
  kind : sc.kind = .function
  co : sc.isCoroutine = false
  gen : sc.isGenerator = false
  nd : N.Nodup
  pre : N.take (1 + fr.length) = p :: fr
  par : sc.names.lookup p = some .local ∨ sc.names.lookup p = some .cell
  one : ∀ y ∈ sc.names, y.2 = .cell → y.1 = p
  free : ∀ y ∈ sc.names, y.2 = .free → y.1 ∈ fr
  frk : ∀ x ∈ fr, sc.names.lookup x = some .free
def lscB (N : List Str) (p : Str) (fr : List Str) (sc : Scope) : Bool :=
  decide (sc.kind = .function) && !sc.isCoroutine && !sc.isGenerator && decide N.Nodup && decide (N.take (1 + fr.length) = p :: fr) && (decide (sc.names.lookup p = some .local) || decide (sc.names.lookup p = some .cell)) &&
    sc.names.all (fun y => !decide (y.2 = .cell) || decide (y.1 = p)) && sc.names.all (fun y => !decide (y.2 = .free) || decide (y.1 ∈ fr)) && fr.all (fun x => decide (sc.names.lookup x = some .free))
theorem lscope_by {N : List Str} {p : Str} {fr : List Str} {sc : Scope} (h : lscB N p fr sc = true) : LScope N p fr sc := by
  unfold lscB at h
  simp only [Bool.and_eq_true, Bool.not_eq_true', decide_eq_true_eq, List.all_eq_true, Bool.or_eq_true, decide_eq_false_iff_not] at h
  obtain ⟨⟨⟨⟨⟨⟨⟨⟨h1, h2⟩, h3⟩, h4⟩, h5⟩, h6⟩, h7⟩, h8⟩, h9⟩ := h
  exact ⟨h1, h2, h3, h4, h5, h6, fun y hy e => (h7 y hy).elim (fun z => absurd e z) id, fun y hy e => (h8 y hy).elim (fun z => absurd e z) id, h9⟩
theorem lookup_hit {n : Str} {c : Addr} {l : List (Str × Addr)} : ((n, c) :: l).lookup n = some c := by
  rw [List.lookup_cons]
  simp
theorem lookup_skip {n y : Str} {c : Addr} {l : List (Str × Addr)} (h : y ≠ n) : ((n, c) :: l).lookup y = l.lookup y := by
  rw [List.lookup_cons]
  have e : (y == n) = false := by simpa using h
  rw [e]
/-- one name alone gets a cell -/
theorem cells_one {p : Str} : ∀ (names : List (Str × NameKind)) (h : Heap) (acc : List (Str × Addr)), (∀ y ∈ names, y.2 = .cell → y.1 = p) →
    (∀ y, y ≠ p → (cellsFrom h.objs.size names acc).lookup y = acc.lookup y) ∧
    (∀ c, (cellsFrom h.objs.size names acc).lookup p = some c → acc.lookup p = some c ∨ (h.objs.size ≤ c ∧ (pushCells h names).IsCell c none)) ∧
    ((∃ y ∈ names, y.2 = .cell) → ∃ c, (cellsFrom h.objs.size names acc).lookup p = some c) ∧ ((∃ c, acc.lookup p = some c) → ∃ c, (cellsFrom h.objs.size names acc).lookup p = some c)
  | [], h, acc, _ => ⟨fun _ _ => rfl, fun c e => .inl e, (fun ⟨_, hy, _⟩ => absurd hy (by simp)), fun e => e⟩
  | (name, kind) :: r, h, acc, H => by
    unfold cellsFrom pushCells
    by_cases hk : (kind == NameKind.cell) = true
    · rw [if_pos hk, if_pos hk]
      have hkc : kind = .cell := by cases kind <;> first | rfl | cases hk
      have hn : name = p := H (name, kind) List.mem_cons_self hkc
      have ih := cells_one r (h.push { cls := .type "cell", data := .cell none }) ((name, h.objs.size) :: acc) fun y hy => H y (List.mem_cons_of_mem _ hy)
      rw [Heap.size_push] at ih
      obtain ⟨i1, i2, i3, i4⟩ := ih
      refine ⟨fun y hy => ?_, fun c e => ?_, fun _ => i4 ⟨_, by rw [hn]; exact lookup_hit⟩, fun _ => i4 ⟨_, by rw [hn]; exact lookup_hit⟩⟩
      · rw [i1 y hy]
        exact lookup_skip (by rw [hn]; exact hy)
      · rcases i2 c e with z | ⟨z1, z2⟩
        · rw [hn, lookup_hit] at z
          cases z
          exact .inr ⟨Nat.le_refl _, ⟨_, pushCells_keeps r _ _ _ (Heap.get?_push_size _ rfl), rfl⟩⟩
        · exact .inr ⟨Nat.le_of_succ_le z1, z2⟩
    · rw [if_neg hk, if_neg hk]
      obtain ⟨i1, i2, i3, i4⟩ := cells_one r h acc fun y hy => H y (List.mem_cons_of_mem _ hy)
      refine ⟨i1, i2, fun ⟨y, hy, e⟩ => ?_, i4⟩
      rcases List.mem_cons.mp hy with z | z
      · rw [z] at e
        have e : kind = .cell := e
        exact absurd (by rw [e]; rfl) hk
      · exact i3 ⟨y, z, e⟩
/-- the new frame: its parameter holds u -/
structure Lay (sc : Scope) (cl : List (Str × Addr)) (p : Str) (u : Value) (h h1 : Heap) (m : Str → Option Value) : Prop where
  keep : ∀ b o, h.get? b = some o → h1.get? b = some o
  ns : h1.Ns h.objs.size m
  val : (sc.names.lookup p = some .local ∧ m p = some u) ∨ (sc.names.lookup p = some .cell ∧ ∃ c, (cellsFrom (h.objs.size + 1) sc.names cl).lookup p = some c ∧ h1.IsCell c (some u))
  oth : ∀ y, y ≠ p → (cellsFrom (h.objs.size + 1) sc.names cl).lookup y = cl.lookup y
  own : ∀ c, (cellsFrom (h.objs.size + 1) sc.names cl).lookup p = some c → h.objs.size < c ∧ ∃ v, h1.IsCell c v
abbrev lenvC (qual : Str) (scope : Scope) (L f : Addr) (cd : Value) (cl : List (Str × Addr)) : Env := PySem.W.envX qual scope L f cd (cellsFrom (L + 1) scope.names cl)
theorem one_store {M : Model} {A : Around} {E : Value → Shared → Prop} {s : Shared} {env : Env} {p : Str} {u : Value} {Q : Env → Shared → Prop} (h : wpAny M A (storeName env p u) (fun _ s' => Q env s') E s) :
    wpAny M A (do
      for (n, v) in [(p, u)] do storeName env n v
      return env) Q E s := by
  simp only [List.forIn_cons, List.forIn_nil, bind_assoc, pure_bind]
  exact wpAny_bind (thn h fun _ s' q => wpAny_pure q)
theorem wp_lay {M : Model} {A : Around} {E : Value → Shared → Prop} {s : Shared} {scope : Scope} {cl : List (Str × Addr)} {p : Str} {u : Value} {qual : Str} {f : Addr} {cd : Value} {Q : Env → Shared → Prop}
    (hk : scope.kind = .function) (hone : ∀ y ∈ scope.names, y.2 = .cell → y.1 = p) (hp : scope.names.lookup p = some .local ∨ scope.names.lookup p = some .cell) (hcl : cl.lookup p = none)
    (hQ : ∀ (h1 : Heap) (tk : Nat) (m : Str → Option Value), Lay scope cl p u s.heap h1 m → Q (lenvC qual scope s.heap.objs.size f cd cl) { s with heap := h1, toks := tk }) :
    wpAny M A (newFunctionEnv scope mainGlobals cl [(p, u)] (qual ++ ".<locals>.") (some f) cd none builtinsNs) Q E s := by
  simp only [newFunctionEnv, Option.isSome_none, Bool.false_eq_true, if_false]
  refine wpAny_bind (wpAny_alloc ?_)
  refine wpAny_bind (wpAny_layCells _ (fun name kind cells => by cases hkc : kind == NameKind.cell <;> simp [hkc]) _ _ _ _ ?_)
  have hsz : (s.heap.push { cls := .type "frame", data := .dict #[] }).objs.size = s.heap.objs.size + 1 := Heap.size_push ..
  have q := cells_one scope.names (s.heap.push { cls := .type "frame", data := .dict #[] }) cl hone
  rw [hsz] at q
  obtain ⟨q1, q2, q3, _⟩ := q
  have k0 : ∀ b o, s.heap.get? b = some o → (pushCells (s.heap.push { cls := .type "frame", data := .dict #[] }) scope.names).get? b = some o := fun b o e => pushCells_keeps _ _ b o (Heap.get?_push_of_some _ e)
  have n0 : (pushCells (s.heap.push { cls := .type "frame", data := .dict #[] }) scope.names).Ns s.heap.objs.size fun _ => none := (Heap.Ns.new s.heap (.type "frame")).keeps (pushCells_keeps _ _)
  rw [show ({ s with heap := s.heap.push { cls := .type "frame", data := .dict #[] } } : Shared).heap.objs.size = s.heap.objs.size + 1 from Heap.size_push ..]
  refine one_store (env := lenvC qual scope s.heap.objs.size f cd cl) (p := p) (u := u) ?_
  show wpAny M A (storeName (lenvC qual scope s.heap.objs.size f cd cl) p u) _ _ { s with heap := pushCells (s.heap.push { cls := .type "frame", data := .dict #[] }) scope.names }
  rcases hp with hp | hp
  · refine wpAny_storeName_local (env := lenvC qual scope s.heap.objs.size f cd cl) hp n0 (fun h1 hn hs => hQ h1 _ _ ⟨fun b o e => ?_, hn, .inl ⟨hp, by simp⟩, q1, fun c e => ?_⟩) (by show (scope.kind == .class || _) = false; rw [hk]; rfl)
    · exact (hs.extBut b o (Nat.ne_of_lt (Heap.lt_size e)) (k0 b o e))
    · rcases q2 c e with z | ⟨z1, z2⟩
      · rw [hcl] at z
        cases z
      · exact ⟨z1, none, z2.sameBut hs (Nat.ne_of_gt z1)⟩
  · obtain ⟨c, hc⟩ := q3 ⟨_, mem_of_lookup hp, rfl⟩
    have own : s.heap.objs.size < c ∧ (pushCells (s.heap.push { cls := .type "frame", data := .dict #[] }) scope.names).IsCell c none := by
      rcases q2 c hc with z | z
      · rw [hcl] at z
        cases z
      · exact z
    refine wpAny_storeName_cell (env := lenvC qual scope s.heap.objs.size f cd cl) hk hp hc own.2 (fun h1 hn hs => hQ h1 _ _ ⟨fun b o e => ?_, n0.sameBut hs (Nat.ne_of_lt own.1), .inr ⟨hp, c, hc, hn⟩, q1, fun c' e => ?_⟩)
    · exact hs.extBut b o (Nat.ne_of_lt (Nat.lt_trans (Heap.lt_size e) own.1)) (k0 b o e)
    · rw [hc] at e
      cases e
      exact ⟨own.1, _, hn⟩

/-! ### the lambda's body -/
def lcx (CX : CXT) (P : Program) (w : World) (K : PySem.W.Frag) (mg : Str → Option Value) (base : Heap) (N : List Str) (qual : Str) (scope : Scope) (cl : List (Str × Addr)) (f : Addr) (cd : Value) (A : Around) (outer : List Env) (s : Shared) (H : Hp) (E : XK) : Cx where
  prog := P
  w := w
  K := K
  mg := mg
  base := base
  A := A.deeper (lenvC qual scope s.heap.objs.size f cd cl)
  N := N
  s_0 := s
  H_0 := H
  env := lenvC qual scope s.heap.objs.size f cd cl
  outer := outer
  stack := lenvC qual scope s.heap.objs.size f cd cl :: outer
  ex := []
  calm := true
  fn := fun _ => false
  pn := []
  xe := fun e s' => wpAny (model P w) (A.deeper (lenvC qual scope s.heap.objs.size f cd cl)) (leaving (lenvC qual scope s.heap.objs.size f cd cl) e) (fun _ s'' => CX outer H s E e s'') (fun e' s'' => CX outer H s E e' s'') s'
section
variable {CX : CXT} {P : Program} {w : World} {K : PySem.W.Frag} {mg : Str → Option Value} {base : Heap} {N fr : List Str} {p qual : Str} {scope : Scope} {cl : List (Str × Addr)} {f : Addr} {cd : Value} {A : Around} {outer : List Env} {s : Shared} {H : Hp} {E : XK} {u : Value} {x : V} {ws : List (Option V)}
theorem lcx_start {h₁ : Heap} {tk : Nat} {m : Str → Option Value} (S : LScope N p fr scope) (hd : A.handled = none) (e0 : Env0 P w K mg base A outer s H) (r : RelV x u) (C : CellsAt cl fr ws s.heap H) (Y : Lay scope cl p u s.heap h₁ m) (hcl : cl.lookup p = none) :
    Inv (lcx CX P w K mg base N qual scope cl f cd A outer s H E) [] (startF N [x] ws) H { s with heap := h₁, toks := tk } := by
  have hpl : 1 + fr.length ≤ N.length := by
    have q := congrArg List.length S.pre
    rw [List.length_take, List.length_cons] at q
    omega
  have kp := Y.keep
  have noA : ∀ b : Addr, b ∉ (lcx CX P w K mg base N qual scope cl f cd A outer s H E).ex := fun b z => absurd (show b ∈ ([] : List Addr) from z) (by simp)
  have cellK : ∀ {c : Addr} {v : Option Value}, s.heap.IsCell c v → h₁.IsCell c v := fun {c v} ⟨o, ho, hd⟩ => ⟨o, kp _ _ ho, hd⟩
  have split : ∀ {y : Str} {c : Addr}, (cellsFrom (s.heap.objs.size + 1) scope.names cl).lookup y = some c → (y = p ∧ s.heap.objs.size < c) ∨ (y ≠ p ∧ cl.lookup y = some c ∧ c < s.heap.objs.size) := fun {y c} e => by
    by_cases z : y = p
    · rw [z] at e
      exact .inl ⟨z, (Y.own c e).1⟩
    · rw [Y.oth y z] at e
      obtain ⟨_, v, hv⟩ := C.all y c e
      exact .inr ⟨z, e, hv.lt⟩
  have frp : ∀ y ∈ fr, y ≠ p := fun y hy z => by
    have q := S.nd.sublist (List.take_sublist (1 + fr.length) N)
    rw [S.pre] at q
    exact (List.nodup_cons.mp q).1 (z ▸ hy)
  have hasF : ∀ y, scope.names.lookup y = some .free → ∃ c, (cellsFrom (s.heap.objs.size + 1) scope.names cl).lookup y = some c := fun y hy => by
    have hf := S.free _ (PySem.mem_of_lookup hy) rfl
    obtain ⟨i, hi⟩ := List.mem_iff_getElem?.mp hf
    obtain ⟨c, hc, _⟩ := C.has i y hi
    exact ⟨c, by rw [Y.oth y (frp y hf)]; exact hc⟩
  refine ⟨⟨e0.mod, S.kind, rfl, rfl, Nat.le_refl _, fun a b c e1 e2 => ?_, fun y hy => ?_, fun y c z _ => ?_, fun _ => hd, Around.frames_deeper e0.frames, .inr ⟨rfl, rfl⟩, fun b z => absurd z (noA b), e0.bs, e0.bsz, fun b _ _ => noA b,
      fun b z => absurd z (noA b), e0.funs, e0.frf⟩,
    rfl, e0.bare, Un.kept kp, ⟨_, Y.ns, fun i y v e1 e2 e3 => ?_⟩, fun y c e => ?_, e0.hok.fresh (Nat.le_refl _), fun y c e => ?_, fun q hq => absurd (show q ∈ ([] : List (Addr × Obj)) ++ [] from hq) (by simp), e0.hok.kept kp, ?_⟩
  · rcases split e1 with ⟨a1, a2⟩ | ⟨a1, a2, a3⟩ <;> rcases split e2 with ⟨b1, b2⟩ | ⟨b1, b2, b3⟩
    · rw [a1, b1]
    · exact absurd (Nat.lt_trans a2 b3) (Nat.lt_irrefl _)
    · exact absurd (Nat.lt_trans b2 a3) (Nat.lt_irrefl _)
    · exact C.inj _ _ _ a2 b2
  · have hy : scope.names.lookup y = some .cell ∨ scope.names.lookup y = some .free := hy
    rcases hy with hy | hy
    · have e := S.one _ (PySem.mem_of_lookup hy) rfl
      have e : y = p := e
      rcases Y.val with ⟨z, _⟩ | ⟨_, c, hc, _⟩
      · rw [e, z] at hy
        cases hy
      · exact ⟨c, by rw [e]; exact hc⟩
    · exact hasF y hy
  · have z : false = true := z
    cases z
  · have e1 : N[i]? = some y := e1
    have clen := C.len
    unfold startF at e2
    by_cases h1 : i < 1
    · have hi : i = 0 := by omega
      rw [hi] at e1 e2
      have hq : (p :: fr)[0]? = some y := by
        rw [← S.pre, List.getElem?_take_of_lt (by omega)]
        exact e1
      have ey : y = p := (Option.some.inj (show some p = some y from hq)).symm
      have ev : v = x := by
        have e2 : some (some x) = some (some v) := e2
        cases e2
        rfl
      rw [ev, ey]
      refine ⟨u, r, ?_⟩
      rcases Y.val with ⟨z, z2⟩ | ⟨z, c, hc, z2⟩
      · exact .inl ⟨z, z2⟩
      · exact .inr ⟨.inl z, c, hc, z2⟩
    · rw [List.getElem?_append_right (by show 1 ≤ i; omega)] at e2
      by_cases h2 : i < 1 + fr.length
      · have hq : (p :: fr)[i]? = some y := by
          rw [← S.pre, List.getElem?_take_of_lt (by omega)]
          exact e1
        obtain ⟨j, ej⟩ : ∃ j, i = j + 1 := ⟨i - 1, by omega⟩
        rw [ej] at hq e2
        rw [List.getElem?_cons_succ] at hq
        rw [List.getElem?_append_left (by simp; omega)] at e2
        obtain ⟨c, hc, hv⟩ := C.has j y hq
        obtain ⟨u', ru, hu⟩ := hv v (by simpa using e2)
        have hf := List.mem_of_getElem? hq
        exact ⟨u', ru, .inr ⟨.inr (S.frk y hf), c, by show (cellsFrom (s.heap.objs.size + 1) scope.names cl).lookup y = some c; rw [Y.oth y (frp y hf)]; exact hc, cellK hu⟩⟩
      · rw [List.getElem?_append_right (by simp; omega), List.getElem?_replicate] at e2
        split at e2 <;> cases e2
  · have e : (cellsFrom (s.heap.objs.size + 1) scope.names cl).lookup y = some c := e
    by_cases z : y = p
    · rw [z] at e
      exact (Y.own c e).2
    · rw [Y.oth y z] at e
      obtain ⟨v, q⟩ := (C.all y c e).2
      exact ⟨v, cellK q⟩
  · have e : (cellsFrom (s.heap.objs.size + 1) scope.names cl).lookup y = some c := e
    rcases split e with ⟨_, a2⟩ | ⟨_, a2, _⟩
    · exact e0.hok.fresh (Nat.le_of_lt a2)
    · exact (C.all y c a2).1
  · have clen := C.len
    unfold startF
    show _ = N.length
    rw [List.length_append, List.length_append, List.length_map, List.length_replicate]
    simp only [List.length_cons, List.length_nil]
    omega
end

theorem clo_own {cells : List (Str × Addr)} {names : List (Str × NameKind)} {fr : List Str} {p : Str} (hf : ∀ y ∈ names, y.2 = .free → y.1 ∈ fr) (hp : p ∉ fr) : (cloFrom cells names []).lookup p = none := by
  cases e : (cloFrom cells names []).lookup p with
  | none => rfl
  | some c =>
    rcases cloFrom_mem (PySem.mem_of_lookup e) with hm | ⟨h1, _⟩
    · cases hm
    · exact absurd (hf _ h1 rfl) hp
/-- the key of a lambda, by its body -/
theorem keys_lam {X : Cx} {pins : List (Addr × Obj)} {σ : L2.St} {H : Hp} {s : Shared} {N fr : List Str} {p : Str} {scope : Scope} {f c' : Addr} {pm ctv : Value} {params : Arguments} {body : Expr} {js : List Nat} {k : Nat} {tb : TE} {x : V} {d : PyData}
    (S : LScope N p fr scope) (hf : s.heap.get? f = some (PySem.W.kla_obj "<lambda>" (X.env.qual ++ "<lambda>") params body scope (cloFrom X.env.cells scope.names []) pm c' ctv)) (hfn : H f = none) (hfr : f ∉ frs X.stack) (hco : H c' = some (CodeO c' (X.env.qual ++ "<lambda>")))
    (cp : X.Ok → Caps X (cloFrom X.env.cells scope.names []) fr js) (hr : Room (k + 1) X.A) (hbind : ∀ u, bindArgs (PySem.W.kla_fn "<lambda>" (X.env.qual ++ "<lambda>") params body scope (cloFrom X.env.cells scope.names []) pm (.ref c') ctv) ⟨[u], []⟩ = pure [(p, u)])
    (hbody : ∀ (A : Around) (outer : List Env) (s : Shared) (H : Hp), Room k (A.deeper (lenvC (X.env.qual ++ "<lambda>") scope s.heap.objs.size f (.ref c') (cloFrom X.env.cells scope.names []))) →
      PE (lcx C8.CX0 X.prog X.w X.K X.mg X.base N (X.env.qual ++ "<lambda>") scope (cloFrom X.env.cells scope.names []) f (.ref c') A outer s H C8.E0) body tb)
    (ht : ∀ H1, Evl.Ex H H1 → tb (startF N [x] (js.map (slotAt σ))) H1 (fun w H2 => Evl.Ex H1 H2 ∧ Dp X.K H2 w d)) : Keys X pins σ H s f x d := by
  intro u s1 H1 I1 x1 R1 ru
  have of1 := (R1 f _ hf hfn hfr).1
  have hc1 := x1 _ _ hco
  obtain ⟨⟨oc, vs, t, hoc, hdc, hvc⟩, _, _⟩ := I1.hok c' _ hc1
  have e0 : Env0 X.prog X.w X.K X.mg X.base X.A.in1.in1 X.stack s1 H1 := ⟨I1.env0.frames, I1.env0.mod, I1.env0.bs, I1.env0.bsz, I1.env0.funs, I1.env0.frf, I1.env0.hok, I1.env0.bare⟩
  have C := cells_of I1 (cp I1.ok)
  have pfr : p ∉ fr := by
    have q := S.nd.sublist (List.take_sublist (1 + fr.length) N)
    rw [S.pre] at q
    exact (List.nodup_cons.mp q).1
  have hcl : (cloFrom X.env.cells scope.names []).lookup p = none := clo_own S.free pfr
  have hr2 : ∀ env, Room k (X.A.in1.in1.deeper env) := fun env => ⟨hr.hd, by have := hr.dp; show X.A.depth + 1 + 3 * k + 5 < _; omega, by have := hr.un; show X.A.units + 1 + 1 + 3 + 16 * k + 200 < _; omega⟩
  refine wpAny_call (codeAny_mono (R := CR C8.CX0 X.stack X.prog X.w H1 s1 (fun w H2 => Evl.Ex H1 H2 ∧ Dp X.K H2 w d) C8.E0) ?_ fun r s' hq => ?_)
  · refine PySem.W.kla_callFunE (by have := hr.dp; show X.A.depth < _; omega) of1 rfl S.co S.gen rfl ⟨c', oc, vs, t, rfl, hoc, hdc, hvc⟩ ?_
    rw [hbind]
    refine wpAny_pure (wp_lay S.kind S.one S.par hcl fun h1 tk m Y => ⟨I1.nolimit.keeps Y.keep, ?_⟩)
    have J : Inv (lcx C8.CX0 X.prog X.w X.K X.mg X.base N (X.env.qual ++ "<lambda>") scope (cloFrom X.env.cells scope.names []) f (.ref c') X.A.in1.in1 X.stack s1 H1 C8.E0) [] (startF N [x] (js.map (slotAt σ))) H1 { s1 with heap := h1, toks := tk } :=
      lcx_start S hr.hd e0 ru C Y hcl
    refine PySem.W.kla_codeExpr (wpAny_mono ((hbody _ _ s1 H1 (hr2 _)).run [] _ _ H1 _ J (ht H1 x1)) (fun v s' hq => ?_) fun e s' hq => hq)
    obtain ⟨w', H', J', rv, q⟩ := hq
    exact ⟨w', H', J'.os, J'.bare, J'.base, J'.hok, rv, q⟩
  · cases r with
    | error e => exact (show False from hq).elim
    | ok fl =>
      cases fl with
      | ret u' =>
        obtain ⟨v, H', os, bare, un, hok, r, q⟩ := hq
        obtain ⟨v2, H2, I2, r2, q2⟩ := I1.after (Q := fun w H2 => Evl.Ex H1 H2 ∧ Dp X.K H2 w d ∧ ∀ b o, s1.heap.get? b = some o → H1 b = none → b ∉ frs X.stack → H2 b = none) ⟨v, H', os, bare, un, hok, r, q.1, q.2, fun b o e n _ => un.free b o e n (by simp)⟩
        exact ⟨v2, H2, I2, q2.1, r2, q2.2.1, fun b o e n h => ⟨un.keep b o e n h (by simp), q2.2.2 b o e n h⟩⟩
      | next => exact False.elim hq
      | brk => exact False.elim hq
      | cont => exact False.elim hq
theorem sql_extN {K : PySem.W.Frag} {H H' : Hp} (e : ExtN H H') {a : Addr} {xs : List V} : SqL K H a xs → SqL K H' a xs
  | .inl (.inl h) => .inl (.inl (e _ _ h (fun ps z => by cases z)))
  | .inl (.inr ⟨o, h⟩) => .inl (.inr ⟨o, e _ _ h (fun ps z => by cases z)⟩)
  | .inr h => .inr h
/-- behind the list v: its items xs, their keys ks -/
def SLk (X : Cx) (T : List (Addr × Str)) (N : List Str) (js : List Nat) (tb : TE) (σ : L2.St) (Q : VK) (v : V) (H1 : Hp) : Prop := ∃ (l : Addr) (xs : List V) (ks : List PyData), v = .ref l ∧ SqL X.K H1 l xs ∧ Tabs T H1 ∧ xs.length = ks.length ∧ AllAlike ks ∧ Sortable ks ∧ (∀ d ∈ ks, d.depth ≤ 60) ∧
  ∀ H2, ExtN H1 H2 → Tabs T H2 → (∀ (i : Nat) (x : V) (d : PyData), xs[i]? = some x → ks[i]? = some d → ∀ H3, Evl.Ex H2 H3 → tb (startF N [x] (js.map (slotAt σ))) H3 (fun w H4 => Evl.Ex H3 H4 ∧ Dp X.K H4 w d)) ∧
    (∀ p H4, H2 p = none → Evl.Ex H2 H4 → H4 p = some (.lst (zsort xs ks)) → Q (.ref p) H4)
/-- the reading of sorted(e, key=lambda p: body) -/
def tSortLam (X : Cx) (T : List (Addr × Str)) (N : List Str) (js : List Nat) (te tb : TE) : TE := fun σ H Q => te σ H fun v H1 => SLk X T N js tb σ Q v H1
def SLa (X : Cx) (T : List (Addr × Str)) (N : List Str) (js : List Nat) (tb : TE) (σ : L2.St) (Q : VK) : List V → Hp → Prop
  | [v], H1 => SLk X T N js tb σ Q v H1
  | _, _ => False
theorem pe_sortLam {X : Cx} {T : List (Addr × Str)} {N fr : List Str} {p : Str} {scope : Scope} {c P : Addr} {params : Arguments} {body : Expr} {js : List Nat} {k : Nat} {te tb : TE} {e : Expr} {p1 lpos kpos pos : Pos}
    (hg : Gl X "sorted") (hm : X.mg "sorted" = none) (ha : PE X e te) (TB : TabB X.base X.mg c P) (hcode : X.env.code = .ref c) (hmT : (P, X.env.qual ++ "<lambda>") ∈ T) (hu : ∀ q ∈ T, q.1 = P → q.2 = X.env.qual ++ "<lambda>") (hr : Room (k + 1) X.A) (S : LScope N p fr scope)
    (hfree : NdefX.ndefB X.env.scope scope fr = true) (hjs : js.map (fun j => X.N[j]?) = fr.map some) (hdef : defaultsOf params X.env = ([], []))
    (hbind : ∀ (q : Str) (cl : List (Str × Addr)) (pm cv ctv u : Value), bindArgs (PySem.W.kla_fn "<lambda>" q params body scope cl pm cv ctv) ⟨[u], []⟩ = pure [(p, u)])
    (hbody : ∀ (c' f : Addr) (A : Around) (outer : List Env) (s : Shared) (H : Hp), Room k (A.deeper (lenvC (X.env.qual ++ "<lambda>") scope s.heap.objs.size f (.ref c') (cloFrom X.env.cells scope.names []))) →
      PE (lcx C8.CX0 X.prog X.w X.K X.mg X.base N (X.env.qual ++ "<lambda>") scope (cloFrom X.env.cells scope.names []) f (.ref c') A outer s H C8.E0) body tb)
    (hst : starEach [e] X.env = (false, eval e X.env) :: starEach [] X.env := by rfl) (he : backTo pos (starEach [e] X.env) = (false, eval e X.env) :: backTo pos (starEach [] X.env) := by rfl) (hpl : (backTo pos (starEach [e] X.env)).any (·.1) = false := by rfl)
    (hall : (backToKw pos (keywordEach [⟨some "key", .Lambda params body scope lpos, kpos⟩] X.env)).all (·.1.isSome) = true := by rfl) (hnone : (backToKw pos (keywordEach [⟨some "key", .Lambda params body scope lpos, kpos⟩] X.env)).any (·.1.isNone) = false := by rfl) :
    PE X (.Call (.Name "sorted" p1) [e] [⟨some "key", .Lambda params body scope lpos, kpos⟩] pos) (tSortLam X T N js te tb) := by
  refine ⟨fun pins s σ H Q I h => ?_⟩
  have free := NdefX.ndef_free hfree
  have frs_ := NdefX.ndef_fr hfree
  have hfr : ∀ y ∈ scope.names, y.2 = .free → ∃ c, X.env.cells.lookup y.1 = some c := fun y hy e => (free y hy e).elim (fun z => I.ok.has _ (.inl z)) fun z => I.ok.has _ (.inr z)
  refine wpAny_Call_Name_kw (ld_blt I hg hm (by rfl) ?_ (by decide) (by decide))
  have h : tCons te tNil σ H (SLa X T N js tb σ Q) := h
  refine PyProof.Rows.callWith_kw (thn ((pa_cons ha pa_nil hst).run pos pins s σ H _ I h) fun us s1 ⟨vs, H1, I1, r1, q1⟩ => ?_) he hpl hall hnone
  match vs, q1 with
  | [v], q1 =>
    obtain ⟨l, xs, ks, rfl, hs, hT, hlen, hal, hso, hd, hgo⟩ := q1
    rw [Vals.ref1 r1]
    show wpAny _ _ (evalAll [do let v ← eval (.Lambda params body scope lpos) X.env; standAt pos; pure v]) _ _ s1
    refine wpAny_evalAll_cons (wpAny_bind (LamX.lam_make2 I1 TB hcode hmT hu hT hdef hfr fun f c' pm ctv H2 s2 I2 eN hT2 hf hfn hfs hco => wpAny_bind (wpAny_standAt (wpAny_pure (wpAny_evalAll_nil ?_)))))
    obtain ⟨hk, hq⟩ := hgo H2 eN hT2
    refine key_sorted (by have := hr.un; omega) I2 (sql_extN eN hs) hlen hal hso hd (fun i x d h1 h2 => ?_) (fun p H' h1 h2 h3 => hq p H' h1 h2 h3)
    exact keys_lam S hf hfn hfs hco (fun ok => Caps.made ok free frs_ hjs) hr (fun u => hbind _ _ _ _ _ u) (fun A outer s H hr => hbody c' f A outer s H hr) (fun H3 e3 => hk i x d h1 h2 H3 e3)
end My
set_option Elab.async false
set_option linter.all false
set_option maxRecDepth 100000
set_option maxHeartbeats 4000000
/-! Defs that make lambdas: their code object is known by name; the tables of code objects at the law's end. -/
namespace My
open PySem PySem.Spec PyProof.Rows L2
open LamX (TabB Tabs TabS ExtN)
structure FunL (K : PySem.W.Frag) (x qual : Str) (st : Stmt) (f : Addr) (fd : FuncData) (c : Addr) : Prop where
  ex : ∃ (oc : Value) (od : Option Addr) (kV doc pm : Value) (an : Option Addr) (ct : Value) (osl : Array (Option Value)),
    fd = PySem.W.fnOf x qual (defArgs st) (defBody st) (defScope st) .none kV doc pm an (.ref c) ct ∧ K.lookup f = some ⟨oc, od, .func fd, osl⟩ ∧ PySem.W.codeIn K (.ref c) qual = true
  kp : PySem.W.keepIn K (.ref f) = true
theorem FunL.toFun {K : PySem.W.Frag} {x qual : Str} {st : Stmt} {f : Addr} {fd : FuncData} {c : Addr} (F : FunL K x qual st f fd c) : Fun K x qual st f fd :=
  let ⟨oc, od, kV, doc, pm, an, ct, osl, a, b, d⟩ := F.ex
  ⟨⟨oc, od, kV, doc, pm, an, .ref c, ct, osl, a, b, d⟩, F.kp⟩
theorem funL_mk {K : PySem.W.Frag} {x qual : Str} {st : Stmt} {f c : Addr} {oc : Value} {od an : Option Addr} {osl : Array (Option Value)} {kV doc pm ct : Value} (l : K.lookup f = some ⟨oc, od, .func (PySem.W.fnOf x qual (defArgs st) (defBody st) (defScope st) .none kV doc pm an (.ref c) ct), osl⟩)
    (d : PySem.W.codeIn K (.ref c) qual = true) (k : PySem.W.keepIn K (.ref f) = true) : FunL K x qual st f (PySem.W.fnOf x qual (defArgs st) (defBody st) (defScope st) .none kV doc pm an (.ref c) ct) c := ⟨⟨oc, od, kV, doc, pm, an, ct, osl, rfl, l, d⟩, k⟩
section
variable {P : Program} {w : World} {K : PySem.W.Frag} {mg : Str → Option Value} {base : Heap}
theorem FunL.ok {x qual : Str} {st : Stmt} {f c : Addr} {fd : FuncData} {N ps : List Str} {k : Nat} {sp : Sp} (F : FunL K x qual st f fd c) (S : FnScope N ps (defScope st)) (len : ∀ vs H Q E, sp vs H Q E → vs.length = ps.length)
    (hbody : ∀ (A : Around) (outer : List Env) (s : Shared) (H : Hp) (vs : List V) (Q : VK) (E : XK), Room k (A.deeper (envOfC qual (defScope st) s.heap.objs.size f (.ref c))) → sp vs H Q E →
      ∃ t, PSs (cxOf CX0 P w K mg base N qual (defScope st) f (.ref c) A outer s H E).nox (defBody st) t ∧ t { nx := fun _ H' => Q .non H', rt := Q } (start N vs) H) : FnOk P w K mg base CX0 (k + 1) f fd ps sp := by
  obtain ⟨oc, od, kV, doc, pm, an, ct, osl, e, lk, hcd⟩ := F.ex
  subst e
  refine fn_of lk hcd S len fun A outer s H vs Q E hr hsp => ?_
  obtain ⟨t, h, q⟩ := hbody A outer s H vs Q E hr hsp
  exact ⟨t, h.nox, q⟩
theorem FunL.okG {x qual : Str} {st : Stmt} {f c : Addr} {fd : FuncData} {N ps : List Str} {k : Nat} {sp : Sp} (F : FunL K x qual st f fd c) (S : FnScope N ps (defScope st)) (len : ∀ vs H Q E, sp vs H Q E → vs.length = ps.length)
    (hbody : ∀ (A : Around) (outer : List Env) (s : Shared) (H : Hp) (vs : List V) (Q : VK) (E : XK), Room k (A.deeper (envOfC qual (defScope st) s.heap.objs.size f (.ref c))) → A.guards = some [] → sp vs H Q E →
      ∃ t, PSs (cxOf CX0 P w K mg base N qual (defScope st) f (.ref c) A outer s H E).nox (defBody st) t ∧ t { nx := fun _ H' => Q .non H', rt := Q } (start N vs) H) : FnOkG P w K mg base CX0 (k + 1) f fd ps sp := by
  obtain ⟨oc, od, kV, doc, pm, an, ct, osl, e, lk, hcd⟩ := F.ex
  subst e
  refine fn_ofG lk hcd S len fun A outer s H vs Q E hr hg hsp => ?_
  obtain ⟨t, h, q⟩ := hbody A outer s H vs Q E hr hg hsp
  exact ⟨t, h.nox, q⟩
end
theorem memB {α : Type} {f : α → Bool} {l : List α} (h : l.all f = true) : ∀ x ∈ l, f x = true := List.all_eq_true.mp h
/-! ### the end of a law with code tables, repr not under way -/
section
variable {P : Program} {w : World} {K : PySem.W.Frag} {mg mb : Str → Option Value}
/-- what stands tracked as a law is called: the tables of the makers, none written in yet, and perhaps the script -/
structure Top (K : PySem.W.Frag) (h : Heap) (cs : List (Addr × Addr)) (a : Addr) (oa : Obj) (xs : List V) (H : Hp) : Prop where
  tab : ∀ c P, (c, P) ∈ cs → H P = some (.tbl #[])
  one : ∀ b u, H b = some u → (∃ c, (c, b) ∈ cs ∧ u = .tbl #[]) ∨ (b = a ∧ K.lookup a = none ∧ u = .frz oa (.lst xs))
/-- an object that is neither a list nor an empty record is not tracked -/
theorem Top.out {h : Heap} {cs : List (Addr × Addr)} {a b : Addr} {oa o : Obj} {xs : List V} {H : Hp} (t : Top K h cs a oa xs H) (hp : ∀ c P, (c, P) ∈ cs → h.get? P = some (PySem.W.tabObj #[])) (hl : h.get? a = some oa)
    (ho : h.get? b = some o) (n1 : o.data ≠ oa.data) (n2 : o.data ≠ (PySem.W.tabObj #[]).data) : H b = none := by
  cases q : H b with
  | none => rfl
  | some u =>
    rcases t.one b u q with ⟨c, hm, _⟩ | ⟨rfl, _⟩
    · exact (n2 (by rw [Option.some.inj (ho.symm.trans (hp _ _ hm))])).elim
    · exact (n1 (by rw [Option.some.inj (ho.symm.trans hl)])).elim
theorem law_at {CX : CXT} {k : Nat} {fa a : Addr} {cs : List (Addr × Addr)} {fd : FuncData} {x : Str} {sp : Sp} {s : Shared} {vs : List Value} {ns : List Int} {H : Hp}
    (kin : K.In s.heap) (mn : s.heap.Ns mainGlobals mg) (bn : s.heap.Ns builtinsNs mb) (bi : ∀ x : Str, x ≠ "__name__" → mb x = bootBuiltins x) (nl : s.heap.NoLimit) (ng : s.gens = #[])
    (hp : ∀ c P, (c, P) ∈ cs → s.heap.get? P = some (PySem.W.tabObj #[])) (hk : ∀ c P, (c, P) ∈ cs → K.lookup P = none) (hc : ∀ c P, (c, P) ∈ cs → PySem.W.CodeHd s.heap c P)
    (bmod : ∃ (m : Addr) (o : Obj), mg "__builtins__" = some (.ref m) ∧ m ≠ builtinsNs ∧ s.heap.get? m = some o ∧ o.cls = .type "module" ∧ o.dict = some builtinsNs ∧ o.data = .plain)
    (hl : s.heap.get? a = some { cls := .type "list", data := .seq vs.toArray }) (hi : IntsAre vs ns) (sz : ns.length ≤ sizeLine) (hr : Room k callerA)
    (F : ∀ base : Heap, K.In base → base.Ns mainGlobals mg → (∀ p ∈ cs, TabB base mg p.1 p.2) → FnOkG P w K mg base CX k fa fd [x] sp) (bind : ∀ (s : Shared) (u : Value), BindsTo s fd ⟨[u], []⟩ [(x, u)])
    (t : Top K s.heap cs a { cls := .type "list", data := .seq vs.toArray } (ns.map V.int) H) (pro : sp [.ref a] H (fun v _ => v = .bl true) fun _ _ _ => False) (exc : ∀ H e s', CX [] H s (fun _ _ _ => False) e s' → False) :
    codeAny (model P w) callerA (.call (.ref fa) ⟨[.ref a], []⟩) (fun r s' => r = .ok (.ret (.bool true)) ∧ OldK s.heap s'.heap ∧ s'.os = s.os ∧ AllBare s'.gens) s := by
  have dictOut : ∀ {b : Addr} {o : Obj} {es : Array DictEntry} {ep : Nat}, s.heap.get? b = some o → o.data = .dict es ep → H b = none := fun ho hd => t.out hp hl ho (fun z => nomatch hd.symm.trans z) fun z => nomatch hd.symm.trans z
  have see : ∀ {b : Addr} {m : Str → Option Value}, s.heap.Ns b m → (hidT s.heap H).Ns b m := fun ⟨o, es, ep, ho, hd, r⟩ => ⟨o, es, ep, hidT_get ho (dictOut ho hd), hd, r⟩
  have kin' : K.In (hidT s.heap H) := fun b o ho => hidT_get (kin b o ho) (by
    cases q : H b with
    | none => rfl
    | some u =>
      rcases t.one b u q with ⟨c, hm, _⟩ | ⟨rfl, z, _⟩
      · exact nomatch (hk _ _ hm).symm.trans ho
      · exact nomatch z.symm.trans ho)
  have tabs' : ∀ p ∈ cs, TabB (hidT s.heap H) mg p.1 p.2 := fun ⟨c, Q⟩ hm => by
    refine ⟨?_, ?_, fun z => ?_⟩
    · obtain ⟨o, fs, f1, f2, f3, f4, f5, f6, f7, ho, g1, g2, g3, g⟩ := hc c Q hm
      refine ⟨o, fs, f1, f2, f3, f4, f5, f6, f7, hidT_get ho (t.out hp hl ho (fun z => nomatch g2.symm.trans z) fun z => ?_), g1, g2, g3, g⟩
      have z2 := g2.symm.trans z
      cases z2
      cases g3
    · obtain ⟨m, o, g1, g2, ho, g3, g4, g5⟩ := bmod
      refine ⟨m, o, g1, g2, ?_, ?_, hidT_get ho (t.out hp hl ho (fun z => nomatch g5.symm.trans z) fun z => nomatch g5.symm.trans z), g3, g4, g5⟩
      · rintro rfl
        obtain ⟨o', es, ep, ho', hd, _⟩ := mn
        rw [Option.some.inj (ho.symm.trans ho')] at g5
        exact nomatch g5.symm.trans hd
      · rintro rfl
        rw [Option.some.inj (ho.symm.trans (hp _ _ hm))] at g5
        exact nomatch g5
    · obtain ⟨o', es, ep, ho', hd, _⟩ := mn
      rw [z] at ho'
      rw [Option.some.inj (ho'.symm.trans (hp _ _ hm))] at hd
      exact nomatch hd
  have ok : HOk P w H s.heap := fun b u q => by
    rcases t.one b u q with ⟨c, hm, rfl⟩ | ⟨rfl, _, rfl⟩
    · exact hp _ _ hm
    · exact ⟨hl, by rw [List.length_map]; exact sz, vs, _, vals_ints hi, hl⟩
  have md : Mod K mg (hidT s.heap H) := ⟨kin', see mn, ⟨mb, see bn, bi⟩, let ⟨mc, g1, g2⟩ := nl; ⟨mc, see g1, g2⟩⟩
  refine codeAny_mono ((F _ kin' (see mn) tabs').run callerA [] s H ⟨[.ref a], []⟩ [.ref a] [.ref a] _ _ hr rfl ⟨rfl, md, fun b o ho => of_hidT ho, Nat.le_of_eq (hidT_size _ _), trivial, (fun b hb => nomatch hb), ok, .of_eq ng⟩ (bind s (.ref a)) (.cons rfl .nil) pro) fun r s' h => ?_
  rcases r with e | fl
  · exact (exc H e s' h).elim
  · cases fl <;> try exact False.elim h
    rename_i u
    obtain ⟨v, H', g1, g2, un, ok', g3, z⟩ := h
    obtain rfl : v = .bl true := z
    obtain rfl : u = Value.bool true := g3
    have end_ : ∀ b o, s.heap.get? b = some o → (∃ c more, (c, b) ∈ cs ∧ s'.heap.get? b = some { cls := .none, data := .fields more }) ∨ s'.heap.get? b = some o := fun b o ho => by
      cases q : H b with
      | none => exact .inr (un.keep b o ho q (fun z => nomatch z) fun z => nomatch z)
      | some u =>
        rcases t.one b u q with ⟨c, hm, rfl⟩ | ⟨rfl, _, rfl⟩
        · obtain ⟨more, z⟩ := un.tbls b #[] q
          exact .inl ⟨c, _, hm, ok' b _ z⟩
        · have z := (ok' _ _ (un.frzs _ _ _ q)).1
          rw [Option.some.inj (ho.symm.trans hl)]
          exact .inr z
    refine ⟨rfl, ⟨fun b o ho => ?_, fun b o ho => ?_⟩, g1, g2⟩
    · rcases end_ b o ho with ⟨c, more, hm, z⟩ | z
      · obtain rfl : o = PySem.W.tabObj #[] := Option.some.inj (ho.symm.trans (hp _ _ hm))
        exact .inr (.inl ⟨((hc _ _ hm).tab ho).isCodeTable, rfl, #[], more, rfl, by rw [Array.empty_append]; exact z⟩)
      · exact .inl z
    · rcases end_ b o ho with ⟨c, more, hm, z⟩ | z
      · exact ⟨_, z⟩
      · exact ⟨o, z⟩
/-- as law_at, the tracked heap made -/
theorem law_tabs {CX : CXT} {k : Nat} {fa a : Addr} {cs : List (Addr × Addr)} {fd : FuncData} {x : Str} {sp : Sp} {s : Shared} {vs : List Value} {ns : List Int}
    (kin : K.In s.heap) (mn : s.heap.Ns mainGlobals mg) (bn : s.heap.Ns builtinsNs mb) (bi : ∀ x : Str, x ≠ "__name__" → mb x = bootBuiltins x) (nl : s.heap.NoLimit) (ng : s.gens = #[])
    (hp : ∀ c P, (c, P) ∈ cs → s.heap.get? P = some (PySem.W.tabObj #[])) (hk : ∀ c P, (c, P) ∈ cs → K.lookup P = none) (hc : ∀ c P, (c, P) ∈ cs → PySem.W.CodeHd s.heap c P)
    (bmod : ∃ (m : Addr) (o : Obj), mg "__builtins__" = some (.ref m) ∧ m ≠ builtinsNs ∧ s.heap.get? m = some o ∧ o.cls = .type "module" ∧ o.dict = some builtinsNs ∧ o.data = .plain)
    (hl : s.heap.get? a = some { cls := .type "list", data := .seq vs.toArray }) (hi : IntsAre vs ns) (sz : ns.length ≤ sizeLine) (hr : Room k callerA)
    (F : ∀ base : Heap, K.In base → base.Ns mainGlobals mg → (∀ p ∈ cs, TabB base mg p.1 p.2) → FnOkG P w K mg base CX k fa fd [x] sp) (bind : ∀ (s : Shared) (u : Value), BindsTo s fd ⟨[u], []⟩ [(x, u)])
    (pro : ∀ H : Hp, (∀ p ∈ cs, H p.2 = some (.tbl #[])) → SqL K H a (ns.map V.int) → sp [.ref a] H (fun v _ => v = .bl true) fun _ _ _ => False) (exc : ∀ H e s', CX [] H s (fun _ _ _ => False) e s' → False) :
    codeAny (model P w) callerA (.call (.ref fa) ⟨[.ref a], []⟩) (fun r s' => r = .ok (.ret (.bool true)) ∧ OldK s.heap s'.heap ∧ s'.os = s.os ∧ AllBare s'.gens) s := by
  have apart : ∀ c, (c, a) ∉ cs := fun c hm => nomatch congrArg Obj.data (Option.some.inj (hl.symm.trans (hp _ _ hm)))
  have mem : ∀ {P c : Addr}, (c, P) ∈ cs → P ∈ cs.map (·.2) := fun hm => List.mem_map.mpr ⟨_, hm, rfl⟩
  have inv : ∀ {P : Addr}, P ∈ cs.map (·.2) → ∃ c, (c, P) ∈ cs := fun hm => by
    obtain ⟨⟨c, P⟩, h1, rfl⟩ := List.mem_map.mp hm
    exact ⟨c, h1⟩
  cases hq : K.lookup a with
  | some o =>
    obtain rfl : o = _ := Option.some.inj ((kin a o hq).symm.trans hl)
    have T : Top K s.heap cs a { cls := .type "list", data := .seq vs.toArray } (ns.map V.int) (fun b => if b ∈ cs.map (·.2) then some (.tbl #[]) else none) := ⟨fun c P hm => if_pos (mem hm), fun b u z => by
      by_cases hb : b ∈ cs.map (·.2)
      · obtain ⟨c, hm⟩ := inv hb
        exact .inl ⟨c, hm, (Option.some.inj ((if_pos hb).symm.trans z)).symm⟩
      · exact nomatch (if_neg hb).symm.trans z⟩
    exact law_at kin mn bn bi nl ng hp hk hc bmod hl hi sz hr F bind T (pro _ (fun p hm => T.tab p.1 p.2 hm) (.inr ⟨_, vs.toArray, _, hq, rfl, rfl, rfl, by rw [List.size_toArray, hi.length]; exact sz, by simpa using vals_ints hi⟩)) exc
  | none =>
    have T : Top K s.heap cs a { cls := .type "list", data := .seq vs.toArray } (ns.map V.int) (fun b => if b ∈ cs.map (·.2) then some (.tbl #[]) else if b = a then some (.frz { cls := .type "list", data := .seq vs.toArray } (.lst (ns.map V.int))) else none) := ⟨fun c P hm => if_pos (mem hm), fun b u z => by
      by_cases hb : b ∈ cs.map (·.2)
      · obtain ⟨c, hm⟩ := inv hb
        exact .inl ⟨c, hm, (Option.some.inj ((if_pos hb).symm.trans z)).symm⟩
      · have z := (if_neg hb).symm.trans z
        by_cases ha : b = a
        · exact .inr ⟨ha, hq, (Option.some.inj ((if_pos ha).symm.trans z)).symm⟩
        · exact nomatch (if_neg ha).symm.trans z⟩
    have na : a ∉ cs.map (·.2) := fun z => let ⟨c, hm⟩ := inv z; apart c hm
    exact law_at kin mn bn bi nl ng hp hk hc bmod hl hi sz hr F bind T (pro _ (fun p hm => T.tab p.1 p.2 hm) (.inl (.inr ⟨_, (if_neg na).trans (if_pos rfl)⟩))) exc
end
/-- the walk of a law with lambdas: at the head's heap the facts of the makers' tables, the law's promise, its proof -/
theorem walk_tabs {l : PySem.W.OpenLaw} {n k : Nat} {q : Program} {loose : List Str} {XP : (Str → Option Value) → Heap → Prop} {YP : World → Heap → Prop} {d : DefRec} {K : Params → PySem.W.Frag} {CX : World → CXT} {x : Str}
    (many : l.most = some n) (small : n ≤ sizeLine) (bare : d.params.defaults = []) (room : Room k callerA) (kin : ∀ (w : World) (h : Heap), YP w h → (K w.params).In h)
    (F : ∀ (w : World) (mg : Str → Option Value) (fa : Addr) (h : Heap), YP w h → (K w.params).In h → h.Ns mainGlobals mg → mg d.name = some (.ref fa) →
      ∃ (fd : FuncData) (cs : List (Addr × Addr)) (sp : Sp), (∀ c P, (c, P) ∈ cs → h.get? P = some (PySem.W.tabObj #[]) ∧ (K w.params).lookup P = none ∧ PySem.W.CodeHd h c P) ∧ (∀ (s : Shared) (u : Value), BindsTo s fd ⟨[u], []⟩ [(x, u)]) ∧
        (∀ (H : Hp) (a : Addr) (ns : List Int), ns.length ≤ n → (∀ p ∈ cs, H p.2 = some (.tbl #[])) → SqL (K w.params) H a (ns.map V.int) → sp [.ref a] H (fun v _ => v = .bl true) fun _ _ _ => False) ∧
        ∀ base : Heap, (K w.params).In base → base.Ns mainGlobals mg → (∀ p ∈ cs, TabB base mg p.1 p.2) → FnOkG l.prog w (K w.params) mg base (CX w) k fa fd [x] sp)
    (exc : ∀ (w : World) (H : Hp) (s : Shared) (e : Value) (s' : Shared), CX w [] H s (fun _ _ _ => False) e s' → False) : PySem.W.WalkO q loose XP YP l.row.toRowW d [] (fun f vs => PySem.call f vs) := by
  refine Att.attach_callB many bare fun w s0 s mg mb fa o pm cd doc a vs ns G Y _ _ _ hm hl hi len _ ng => ?_
  obtain ⟨fd, cs, sp, tab, bind, pro, ok⟩ := F w mg fa _ Y (kin w _ Y) G.T.g hm
  exact law_tabs (kin w _ Y) G.T.g G.T.b G.T.builtins G.T.nolimit ng (fun c P z => (tab c P z).1) (fun c P z => (tab c P z).2.1) (fun c P z => (tab c P z).2.2) G.T.bmain hl hi (Nat.le_trans len small) room ok bind (fun H z S => pro H a ns len z S) fun H e s' => exc w H s e s'
theorem tabs_only : ∀ {T : List (Addr × Str)} {l : List Addr} {P : Addr} {q : Str}, l.Nodup → T.map Prod.fst = l → (P, q) ∈ T → ∀ r ∈ T, r.1 = P → r.2 = q
  | [], _, _, _, _, _, m => nomatch m
  | (P0, q0) :: T, _, P, q, n, rfl, m => fun r hr e => by
    obtain ⟨n1, n2⟩ := List.nodup_cons.mp n
    rcases List.mem_cons.mp m with z | z <;> rcases List.mem_cons.mp hr with y | y
    · rw [y, ← z]
    · cases z
      exact (n1 (List.mem_map.mpr ⟨r, y, e⟩)).elim
    · rw [y] at e
      exact (n1 (List.mem_map.mpr ⟨(P, q), z, e.symm⟩)).elim
    · exact tabs_only n2 rfl z r y e
theorem tabs0_of {T : List (Addr × Str)} {cs : List (Addr × Addr)} (e : T.map Prod.fst = cs.map Prod.snd) {H : Hp} (z : ∀ p ∈ cs, H p.2 = some (.tbl #[])) : Tabs T H := fun p hp => TabS.nil (by
  obtain ⟨q, hq, h⟩ := List.mem_map.mp (e ▸ List.mem_map.mpr ⟨p, hp, rfl⟩ : p.1 ∈ cs.map Prod.snd)
  rw [← h]
  exact z q hq)
end My
set_option Elab.async false
set_option linter.all false
set_option maxRecDepth 100000
set_option maxHeartbeats 4000000
/-! Lists of objects, pair by pair; comprehensions that make objects; sorting of objects by their data. -/
namespace My
open PySem PySem.Spec PyProof.Rows L2
open PySem.W (AllAlike Sortable dataLe)
def AllR {α : Type} (R : V → α → Prop) (vs : List V) (xs : List α) : Prop := vs.length = xs.length ∧ ∀ (i : Nat) v x, vs[i]? = some v → xs[i]? = some x → R v x
section
variable {α β : Type} {R S : V → α → Prop} {vs us : List V} {xs ys : List α}
theorem AllR.nil : AllR R [] [] := ⟨rfl, fun i v x h => by cases h⟩
theorem AllR.mono (h : AllR R vs xs) (k : ∀ v x, R v x → S v x) : AllR S vs xs := ⟨h.1, fun i v x h1 h2 => k v x (h.2 i v x h1 h2)⟩
theorem AllR.get (h : AllR R vs xs) {i : Nat} {v : V} (hi : vs[i]? = some v) : ∃ x, xs[i]? = some x ∧ R v x := by
  have hlt : i < vs.length := (List.getElem?_eq_some_iff.mp hi).1
  have hr : xs[i]? = some (xs[i]'(by rw [← h.1]; exact hlt)) := List.getElem?_eq_getElem _
  exact ⟨_, hr, h.2 i v _ hi hr⟩
theorem AllR.row (h : AllR R vs xs) {i : Nat} {x : α} (hi : xs[i]? = some x) : ∃ v, vs[i]? = some v ∧ R v x := by
  have hlt : i < xs.length := (List.getElem?_eq_some_iff.mp hi).1
  have hr : vs[i]? = some (vs[i]'(by rw [h.1]; exact hlt)) := List.getElem?_eq_getElem _
  exact ⟨_, hr, h.2 i _ x hr hi⟩
theorem AllR.append (h : AllR R vs xs) (k : AllR R us ys) : AllR R (vs ++ us) (xs ++ ys) := by
  refine ⟨by simp [h.1, k.1], fun i v x h1 h2 => ?_⟩
  by_cases z : i < vs.length
  · rw [List.getElem?_append_left z] at h1
    rw [List.getElem?_append_left (by rw [← h.1]; exact z)] at h2
    exact h.2 i v x h1 h2
  · rw [List.getElem?_append_right (by omega)] at h1
    rw [List.getElem?_append_right (by rw [← h.1]; omega), ← h.1] at h2
    exact k.2 _ v x h1 h2
theorem AllR.one {v : V} {x : α} (h : R v x) : AllR R [v] [x] := ⟨rfl, fun i u y h1 h2 => by
  cases i with
  | zero =>
    cases h1
    cases h2
    exact h
  | succ n => cases h1⟩
theorem AllR.snoc (h : AllR R vs xs) {v : V} {x : α} (k : R v x) : AllR R (vs ++ [v]) (xs ++ [x]) := h.append (AllR.one k)
theorem AllR.take (h : AllR R vs xs) (n : Nat) : AllR R (vs.take n) (xs.take n) := by
  refine ⟨by simp [h.1], fun i v d h1 h2 => ?_⟩
  rw [List.getElem?_take] at h1 h2
  split at h1
  · rename_i z
    rw [if_pos z] at h2
    exact h.2 i v d h1 h2
  · cases h1
theorem AllR.dp {K : PySem.W.Frag} {H : Hp} {e : α → PyData} : ∀ {vs : List V} {xs : List α}, AllR R vs xs → (∀ v x, R v x → Dp K H v (e x)) → DpAll K H vs (xs.map e)
  | [], [], _, _ => .nil
  | [], _ :: _, h, _ => by cases h.1
  | _ :: _, [], h, _ => by cases h.1
  | v :: vs, x :: xs, h, k => .cons (k v x (h.2 0 v x rfl rfl)) (AllR.dp ⟨by simpa using h.1, fun i u y h1 h2 => h.2 (i + 1) u y h1 h2⟩ k)
/-- sorted objects, by the data of them -/
theorem AllR.sort (key : α → PyData) (h : AllR R vs xs) : AllR R (zsort vs (xs.map key)) (xs.mergeSort (dataLe false key)) := by
  have e1 : zsort vs (xs.map key) = ((vs.zip xs).mergeSort (fun p q => dataLe false key p.2 q.2)).map (·.1) := by
    unfold zsort
    have e : vs.zip (xs.map key) = (vs.zip xs).map (fun p => (p.1, key p.2)) := by
      rw [List.zip_map_right]
      rfl
    rw [e, ← List.map_mergeSort (r := fun p q => dataLe false key p.2 q.2) (fun _ _ _ _ => rfl), List.map_map]
    rfl
  have e2 : xs.mergeSort (dataLe false key) = ((vs.zip xs).mergeSort (fun p q => dataLe false key p.2 q.2)).map (·.2) := by
    rw [List.map_mergeSort (s := dataLe false key) (fun _ _ _ _ => rfl), List.map_snd_zip]
    rw [h.1]
    exact Nat.le_refl _
  rw [e1, e2]
  have hp := List.mergeSort_perm (vs.zip xs) (fun p q => dataLe false key p.2 q.2)
  generalize (vs.zip xs).mergeSort (fun p q => dataLe false key p.2 q.2) = Z at hp
  refine ⟨by simp, fun i v x h1 h2 => ?_⟩
  rw [List.getElem?_map] at h1 h2
  cases z : Z[i]? with
  | none => rw [z] at h1; cases h1
  | some p =>
    rw [z] at h1 h2
    cases h1
    cases h2
    have hm : p ∈ vs.zip xs := hp.mem_iff.mp (List.mem_of_getElem? z)
    obtain ⟨k, hk⟩ := List.getElem?_of_mem hm
    rw [List.getElem?_zip_eq_some] at hk
    exact h.2 k _ _ hk.1 hk.2
theorem none_of {H H' : Hp} {p : Addr} (e : Ex H H') (h : H' p = none) : H p = none := by
  cases z : H p with
  | none => rfl
  | some o => rw [e _ _ z] at h; cases h
theorem ne_some {H H' : Hp} {p D : Addr} (e : Ex H H') (h : H' p = none) (hD : H D ≠ none) : p ≠ D := fun z => hD (none_of e (z ▸ h))
/-- a comprehension without tests over a list, each element an object (or any value) that R tells -/
theorem lc_objL {K : PySem.W.Frag} {a : Addr} {xs : List V} {ys : List α} {R : Hp → V → α → Prop} {g : TG} {te : TE} {vs : List Nat} {σ : L2.St} {H1 : Hp} {D : Addr} {Qd : Hp → Prop} (hx : SqL K H1 a xs) (hD : H1 D = none) (hl : ys.length = xs.length) (hz : xs.length ≤ sizeLine)
    (st : ∀ H' H'' v y, R H' v y → Exj D H' H'' → R H'' v y)
    (he : ∀ (i : Nat) x y H', Ex H1 H' → H' D ≠ none → xs[i]? = some x → ys[i]? = some y → ∀ (N : VK) (Z : Hp → Prop), (∀ v H2, Ex H' H2 → R H2 v y → N v H2) → g x (wipe σ vs) H' fun σ2 H2 => wipe σ2 vs = wipe σ vs ∧ tYes σ2 H2 fun b H3 => if b = true then te σ2 H3 N else Z H3)
    (k : ∀ H' us, Ex H1 H' → H' D = some (.lst us) → AllR (R H') us ys → Qd H') :
    ∃ W : Nat → Nat → Hp → Prop, (∃ m, W 0 m (upd H1 D (.lst []))) ∧ ∀ i m H, W i m H →
      ((Itl K a).stop i H ∧ Qd H) ∨ ((Itl K a).go i H ∧ ∃ Nx : Hp → Prop, (∀ H', Nx H' → ∃ m', m' < m ∧ W (i + 1) m' H') ∧ ∀ x H', (Itl K a).yld i H x H' → g x (wipe σ vs) H' fun σ2 H2 => wipe σ2 vs = wipe σ vs ∧ tYes σ2 H2 fun b H3 =>
        if b = true then te σ2 H3 fun y H4 => ∃ acc, H4 D = some (.lst acc) ∧ acc.length < sizeLine ∧ Nx (upd H4 D (.lst (acc ++ [y]))) else Nx H3) := by
  refine lc_it (walk_list (K := K) (a := a) (xs := xs)) (fun i H' => ∃ us, Ex H1 H' ∧ H' D = some (.lst us) ∧ us.length = i ∧ AllR (R H') us (ys.take i)) ⟨[], Evl.Ex.new hD, upd_same, rfl, AllR.nil⟩ (fun i H' _ ⟨_, e, _⟩ => Evl.ex_l e hx) ?_ ?_
  · rintro i x H' H3 hi ⟨us, e', d', l', a'⟩ ⟨rfl, hv⟩
    have hy : ys[i]? = some (ys[i]'(by omega)) := List.getElem?_eq_getElem (by omega)
    refine he i x _ H3 e' (fun z => by rw [d'] at z; cases z) hv hy _ _ fun v H2 e2 r2 => ⟨us, e2 _ _ d', by omega, us ++ [v], Evl.Ex.mut (e'.trans e2) hD, upd_same, by simp [l'], ?_⟩
    rw [List.take_add_one, hy]
    have y1 : Exj D H2 (upd H2 D (.lst (us ++ [v]))) := (Exj.refl _ _).upd
    exact AllR.snoc (a'.mono fun u y r => st _ _ u y (st _ _ u y r (Exj.of e2)) y1) (st _ _ _ _ r2 y1)
  · rintro H' ⟨us, e', d', l', a'⟩
    rw [List.take_of_length_le (by omega)] at a'
    exact k H' us e' d' a'
end
end My
set_option Elab.async false
set_option linter.all false
set_option maxRecDepth 100000
set_option maxHeartbeats 4000000
/-! What lasts over the making of a lambda: all objects but the code tables. sorted(.., key=lambda ..) of ints and of objects. -/
namespace My
open PySem PySem.Spec L2
open PySem.W (AllAlike Sortable dataLe alike)
open LamX (ExtN Tabs)
theorem extN_l {H H' : Hp} (e : ExtN H H') {b : Addr} {xs : List V} (h : H b = some (.lst xs)) : H' b = some (.lst xs) := e _ _ h fun _ z => nomatch z
theorem extN_t {H H' : Hp} (e : ExtN H H') {b : Addr} {xs : List V} (h : H b = some (.tup xs)) : H' b = some (.tup xs) := e _ _ h fun _ z => nomatch z
theorem extN_i {H H' : Hp} (e : ExtN H H') {b C dx : Addr} {fs : List (Str × V)} (h : H b = some (.ins C dx fs)) : H' b = some (.ins C dx fs) := e _ _ h fun _ z => nomatch z
theorem sqT_extN {K : PySem.W.Frag} {H H' : Hp} (e : ExtN H H') {a : Addr} {xs : List V} : SqT K H a xs → SqT K H' a xs
  | .inl (.inl h) => .inl (.inl (extN_t e h))
  | .inl (.inr ⟨o, h⟩) => .inl (.inr ⟨o, e _ _ h fun _ z => nomatch z⟩)
  | .inr h => .inr h
mutual
theorem Dp.extN {K : PySem.W.Frag} {H H' : Hp} (e : ExtN H H') : ∀ (d : PyData) (v : V), Dp K H v d → Dp K H' v d
  | .none, _, h => by cases h; exact .non
  | .bool _, _, h => by cases h; exact .bl _
  | .int _, _, h => by cases h; exact .int _
  | .str _, _, h => by cases h; exact .str _
  | .list ds, _, h => by
    cases h with
    | lst h1 h2 => exact .lst (sql_extN e h1) (DpAll.extN e ds _ h2)
  | .tuple ds, _, h => by
    cases h with
    | tup h1 h2 => exact .tup (sqT_extN e h1) (DpAll.extN e ds _ h2)
  | .dict _, _, h => by cases h
theorem DpAll.extN {K : PySem.W.Frag} {H H' : Hp} (e : ExtN H H') : ∀ (ds : List PyData) (vs : List V), DpAll K H vs ds → DpAll K H' vs ds
  | [], _, h => by cases h; exact .nil
  | d :: ds, _, h => by
    cases h with
    | cons h1 h2 => exact .cons (Dp.extN e d _ h1) (DpAll.extN e ds _ h2)
end
/-- nothing stands at p but perhaps a code table -/
def NewN (H : Hp) (p : Addr) : Prop := ∀ o, H p = some o → ∃ ps, o = .tbl ps
theorem NewN.of {H : Hp} {p : Addr} (h : H p = none) : NewN H p := fun o z => nomatch h.symm.trans z
theorem NewN.back {H H' : Hp} {p : Addr} (n : NewN H' p) (e : ExtN H H') : NewN H p := fun o h => Classical.byContradiction fun z =>
  z (n o (e _ _ h fun ps q => z ⟨ps, q⟩))
theorem NewN.ne {H : Hp} {p b : Addr} {o : HO} (n : NewN H p) (h : H b = some o) (ho : ∀ ps, o ≠ .tbl ps) : p ≠ b := fun z => by
  obtain ⟨ps, q⟩ := n o (z ▸ h)
  exact ho ps q
theorem NewN.nel {H : Hp} {p b : Addr} {xs : List V} (n : NewN H p) (h : H b = some (.lst xs)) : p ≠ b := n.ne h fun _ z => nomatch z
theorem zsort_map {α : Type} (f : α → V) (g : α → PyData) (l : List α) : zsort (l.map f) (l.map g) = (l.mergeSort (dataLe false g)).map f := by
  unfold zsort
  rw [show (l.map f).zip (l.map g) = l.map fun x => (f x, g x) by rw [List.zip_map']]
  rw [← List.map_mergeSort (r := dataLe false g) (s := dataLe false fun x : V × PyData => x.2) (f := fun x => (f x, g x)) (fun _ _ _ _ => rfl), List.map_map]
  rfl
/-- the reading of sorted(ints, key=lambda i: ..): d, the key's data -/
theorem slk_ints {X : Cx} {T : List (Addr × Str)} {N : List Str} {js : List Nat} {tb : TE} {σ : L2.St} {Q : VK} {a : Addr} {H1 : Hp} {l : List Int} (d : Int → PyData) (hs : SqL X.K H1 a (l.map V.int)) (hT : Tabs T H1) (al : ∀ i j, alike (d i) (d j) = true)
    (so : (∀ i, ∃ x r, d i = .tuple (x :: r)) ∨ ∀ i, d i ≠ .none ∧ ∀ xs, d i ≠ .tuple xs) (dep : ∀ i, (d i).depth ≤ 60)
    (key : ∀ H2, ExtN H1 H2 → ∀ i ∈ l, tb (NdefX.startF N [.int i] (js.map (NdefX.slotAt σ))) H2 fun w H4 => Evl.Ex H2 H4 ∧ Dp X.K H4 w (d i))
    (q : ∀ p H', NewN H1 p → ExtN H1 H' → Tabs T H' → H' p = some (.lst ((l.mergeSort (dataLe false d)).map V.int)) → Q (.ref p) H') : SLk X T N js tb σ Q (.ref a) H1 := by
  refine ⟨a, l.map V.int, l.map d, rfl, hs, hT, by simp, AllAlike.of al, ?_, fun x hx => ?_, fun H2 e2 T2 => ⟨fun i x y hx hy H3 e3 => ?_, fun p H4 n e4 h4 => ?_⟩⟩
  · rcases so with so | so
    · exact .inl fun x hx => by
        obtain ⟨i, _, rfl⟩ := List.mem_map.mp hx
        exact so i
    · exact .inr fun x hx => by
        obtain ⟨i, _, rfl⟩ := List.mem_map.mp hx
        exact so i
  · obtain ⟨i, _, rfl⟩ := List.mem_map.mp hx
    exact dep i
  · rw [List.getElem?_map] at hx hy
    cases hi : l[i]? with
    | none =>
      rw [hi] at hx
      cases hx
    | some t =>
      rw [hi] at hx hy
      cases hx
      cases hy
      exact key H3 (e2.trans (ExtN.of e3)) t (List.mem_of_getElem? hi)
  · rw [zsort_map] at h4
    exact q p H4 ((NewN.of n).back e2) (e2.trans (ExtN.of e4)) (T2.ext e4) h4
end My
set_option Elab.async false
set_option linter.all false
set_option maxRecDepth 100000
set_option maxHeartbeats 4000000
/-! sorted(objects, key=lambda x: ..) -/
namespace My
open PySem PySem.Spec L2
open PySem.W (AllAlike Sortable dataLe alike)
open LamX (ExtN Tabs)
theorem slk_objs {α : Type} {X : Cx} {T : List (Addr × Str)} {N : List Str} {js : List Nat} {tb : TE} {σ : L2.St} {Q : VK} {a : Addr} {H1 : Hp} {us : List V} {ys : List α} {R : Hp → V → α → Prop} (d : α → PyData) (hs : SqL X.K H1 a us) (hR : AllR (R H1) us ys) (mono : ∀ H H' v y, ExtN H H' → R H v y → R H' v y) (hT : Tabs T H1)
    (al : ∀ i j, alike (d i) (d j) = true) (so : (∀ i, ∃ x r, d i = .tuple (x :: r)) ∨ ∀ i, d i ≠ .none ∧ ∀ xs, d i ≠ .tuple xs) (dep : ∀ i, (d i).depth ≤ 60)
    (key : ∀ H2, ExtN H1 H2 → ∀ v, ∀ y ∈ ys, R H2 v y → tb (NdefX.startF N [v] (js.map (NdefX.slotAt σ))) H2 fun w H4 => Evl.Ex H2 H4 ∧ Dp X.K H4 w (d y))
    (q : ∀ p vs H', NewN H1 p → ExtN H1 H' → Tabs T H' → H' p = some (.lst vs) → AllR (R H') vs (ys.mergeSort (dataLe false d)) → Q (.ref p) H') : SLk X T N js tb σ Q (.ref a) H1 := by
  refine ⟨a, us, ys.map d, rfl, hs, hT, by rw [List.length_map]; exact hR.1, AllAlike.of al, ?_, fun x hx => ?_, fun H2 e2 T2 => ⟨fun i x y hx hy H3 e3 => ?_, fun p H4 n e4 h4 => ?_⟩⟩
  · rcases so with so | so
    · exact .inl fun x hx => by
        obtain ⟨i, _, rfl⟩ := List.mem_map.mp hx
        exact so i
    · exact .inr fun x hx => by
        obtain ⟨i, _, rfl⟩ := List.mem_map.mp hx
        exact so i
  · obtain ⟨i, _, rfl⟩ := List.mem_map.mp hx
    exact dep i
  · obtain ⟨z, hz, r⟩ := hR.get hx
    rw [List.getElem?_map, hz] at hy
    cases hy
    have e13 := e2.trans (ExtN.of e3)
    exact key H3 e13 x z (List.mem_of_getElem? hz) (mono _ _ _ _ e13 r)
  · have e14 := e2.trans (ExtN.of e4)
    exact q p _ H4 ((NewN.of n).back e2) e14 (T2.ext e4) h4 ((hR.mono fun v y r => mono _ _ _ _ e14 r).sort d)
end My
set_option Elab.async false
set_option linter.all false
set_option maxRecDepth 100000
set_option maxHeartbeats 4000000
/-! set(xs) of a list of ints as a set whose order is known; sorted(set(xs)); x in xs of nested data; a + b of own objects. -/
namespace My
open PySem PySem.Spec PyProof.Rows L2 PySem.SeqAt
abbrev nset (w : World) : Obj := { cls := .type "set", dict := none, data := .set #[] 0 (.fresh 0 0 (!w.params.followText "set-order")) }
section
variable {P : Program} {w : World} {A : Around} {E : Value → Shared → Prop} {s : Shared}
theorem call_set_lst {l : Addr} {xs : Array Value} (ns : List Int) {Q : Value → Shared → Prop} (hd : A.handled = none) (ha : s.heap.IsList l xs) (hi : IntsAre xs.toList ns) (hz : ns.length + 1 < scanBound)
    (k : ∀ (h1 : Heap) (tk c : Nat), SetR w h1 s.heap.objs.size (fun j => decide (j ∈ ns)) c → c ≤ ns.length → (∀ b o, s.heap.get? b = some o → h1.get? b = some o) → Q (.ref s.heap.objs.size) { s with heap := h1, toks := tk }) :
    wpAny (model P w) A (call (.type "set") [.ref l]) Q E s := by
  have nl : xs.size = ns.length := (Array.length_toList (xs := xs)).symm.trans hi.length
  obtain ⟨mc, ml, m0⟩ := F.called_set.mro; have m1 := F.called_set.made; have m2 := F.called_set.sub
  refine wpAny_call (codeAny_of_tree (show wpAny _ _ (callAny (.type "set") _) _ _ _ from wpAny_pure ⟨Code.quiet_builtin _ (by decide +kernel), codeAny_builtin F.entry_type_call ?_⟩))
  rw [Around.under_plain (weight_type_call_type "set" [.ref l] []) (by rfl)]
  have m3 := F.called_set.notType; have m4 := F.called_set.canCreate; have m5 := F.typeCall_set_1 (.ref l)
  repeat (any_goals (first | assumption | wp_step))
  refine codeAny_mono (code_set_led1 (.ref l) (E := E) (Q₁ := fun o s1 => o = .ref s.heap.objs.size ∧ s1 = { s with heap := s.heap.push (nset w) }) ⟨rfl, rfl⟩) fun r s1 hr => ?_
  rcases r with e | fl
  · exact hr
  rcases fl with _ | _ | _ | ob
  all_goals first | exact hr.elim | skip
  obtain ⟨rfl, rfl⟩ := hr
  have gS : (s.heap.push (nset w)).get? s.heap.objs.size = some (nset w) := Heap.get?_push_size _ rfl
  have tS : Shared.TypeIs { s with heap := s.heap.push (nset w) } (.ref s.heap.objs.size) "set" := ⟨_, gS, rfl⟩
  have m6 := F.called_set.init.lookup; have m7 := F.called_set.init.bind (.ref s.heap.objs.size)
  repeat (any_goals (first | assumption | wp_step))
  refine codeAny_mono (codeAny_call_builtin (R := wants (fun r s2 => r = .none ∧ ∃ h1 tk c, s2 = { s with heap := h1, toks := tk } ∧ SetR w h1 s.heap.objs.size (fun j => decide (j ∈ ns)) c ∧ c ≤ ns.length ∧ ∀ b o, s.heap.get? b = some o → h1.get? b = some o) E) F.called_set.init.plain F.entry_set_init (check_set_init_1 tS ?_)) fun r2 s2 hr2 => ?_
  · obtain ⟨⟨oc, od, ot, os⟩, ho, c1, m, c2⟩ := ha
    simp only at c1 c2
    subst c1; subst c2
    have ho1 : (s.heap.push (nset w)).get? l = some ⟨.type "list", od, .seq xs m, os⟩ := Heap.get?_push_of_some _ ho
    have b1 := F.sub_list_set; have b2 := F.sub_list_frozenset; have b3 : (Value.type "list" == Value.type "dict") = false := by decide
    have hl1 : (s.heap.push (nset w)).IsList l xs := ⟨_, ho1, rfl, m, rfl⟩
    unfold Builtin.«set.__init__» noKeywords Builtin.Frozenset.updateFrom
    generalize hI : pyIter = PI
    wp_walk
    subst hI
    refine wpAny_pyIter_list hl1 (wpAny_bind (wpAny_runValue ?_))
    have lS : l < s.heap.objs.size := Heap.lt_size ho
    have d3 : A.in1.in1.in1.handled = none := by simp [hd]
    have e1 : (s.heap.push (nset w)).objs.size = s.heap.objs.size + 1 := Heap.size_push ..
    have lI : l ≠ (s.heap.push (nset w)).objs.size := by rw [e1]; exact Nat.ne_of_lt (Nat.lt_succ_of_lt lS)
    have nf : s.heap.objs.size ∉ [(s.heap.push (nset w)).objs.size, l] := by
      rw [e1]; intro z
      rcases List.mem_cons.mp z with q | q
      · exact absurd q (Nat.ne_of_lt (Nat.lt_succ_self _))
      · exact absurd (List.mem_singleton.mp q) (Nat.ne_of_gt lS)
    have vs : ∀ (i : Nat) (v : Value), xs[i]? = some v → ∃ k t, ns[i]? = some k ∧ v = .int k t := fun i v hv => by
      have il : i < ns.length := nl ▸ (Array.getElem?_eq_some_iff.mp hv).1
      obtain ⟨t, e⟩ := hi.int_at i v (by simpa using hv)
      exact ⟨ns[i], t, List.getElem?_eq_getElem il, by rw [e, List.getD_eq_getElem?_getD, List.getElem?_eq_getElem il]; rfl⟩
    refine set_update_ints ((Walks.list d3 _ l lI xs).toS) s.heap.objs.size nf ns nl hz vs (xs.size - 0) 0 _ (by omega) (Nat.zero_le _) ⟨⟨_, Heap.get?_push_size _ rfl, rfl, rfl⟩, hl1.push _⟩ ⟨0, Nat.le_refl 0, setR_new_at (Heap.get?_push_of_some _ gS)⟩ ?_
    intro s3 c3 hm hc3 hS3
    obtain ⟨h3, g3, dr3, tk3, o3⟩ := s3
    have q1 : g3 = s.gens := hm.gens; have q2 : dr3 = s.drawn := hm.drawn; have q3 : o3 = s.os := hm.os
    subst q1; subst q2; subst q3
    refine (show wpAny _ _ _ _ _ _ from wpAny_pure (show wpAny _ _ (ret Value.none) _ _ _ from wpAny_pure ⟨rfl, h3, tk3, c3, rfl, hS3, nl ▸ hc3, fun b o e => ?_⟩))
    have bl : b < s.heap.objs.size := Heap.lt_size e
    refine hm.heap b o ?_ (Heap.get?_push_of_some _ (Heap.get?_push_of_some _ e))
    rw [e1]
    intro z
    rcases List.mem_cons.mp z with q | q
    · exact absurd q (Nat.ne_of_lt bl)
    · exact absurd (List.mem_singleton.mp q) (Nat.ne_of_lt (Nat.lt_succ_of_lt bl))
  · rcases r2 with e | fl
    · exact hr2
    rcases fl with _ | _ | _ | v
    all_goals first | exact hr2.elim | skip
    obtain ⟨rfl, h1, tk, c, rfl, hS, hc, hk⟩ := hr2
    repeat (any_goals (first | assumption | wp_step))
    exact k _ _ _ hS hc hk
end
section
variable {X : Cx}
/-- sorted(set(xs)) -/
def tSortSet (K : PySem.W.Frag) (ta : TE) : TE := fun σ H Q => ta σ H fun x H1 => ∃ (l : Addr) (ns : List Int), x = V.ref l ∧ SqL K H1 l (ns.map V.int) ∧ ns.length < 64 ∧ ∀ ms : List Int, ms.Pairwise (· < ·) → (∀ k, k ∈ ms ↔ k ∈ ns) → New (.lst (ms.map V.int)) H1 Q
theorem pe_sortSet {a : Expr} {ta : TE} {p p2 q pos : Pos} (hg : Gl X "sorted") (hm : X.mg "sorted" = none) (hg2 : Gl X "set") (hm2 : X.mg "set" = none) (ha : PE X a ta) (hc : X.calm = true := by rfl)
    (na : starEach [a] X.env = (false, eval a X.env) :: starEach [] X.env := by rfl) : PE X (.Call (.Name "sorted" p) [.Call (.Name "set" p2) [a] [] q] [] pos) (tSortSet X.K ta) := by
  refine ⟨fun pins s σ H Q I h => ?_⟩
  refine Call_ (ld_blt I hg hm (show bootBuiltins "sorted" = some (.builtin "sorted") by decide +kernel) (PyProof.Rows.callWith_builtin1 (PyProof.Rows.args_cons ?_ rfl) rfl rfl))
  refine Call_ (ld_blt I hg2 hm2 PyProof.Rows.boot_set (PyProof.Rows.callWith_type1 (PyProof.Rows.args_cons (thn (ha.run pins s σ H _ I h) fun v s1 ⟨x, H1, I1, r1, q1⟩ => PyProof.Rows.args_nil ?_) na) na rfl))
  obtain ⟨l, ns, rfl, hq, hz, q1⟩ := q1
  cases r1
  obtain ⟨its, r, pl, _⟩ := I1.list hq
  have hlen : its.length = ns.length := by rw [← r.length, List.length_map]
  refine call_set_lst ns (I1.ok.hd hc) pl.isList (by simpa using r.ints) (by unfold scanBound; omega) fun h1 tk c hS hc1 hk => ?_
  refine PyProof.Rows.args_nil ?_
  have I2 : Inv X pins σ H1 { s1 with heap := h1, toks := tk } := I1.kept hk
  refine sorted_set hS (I2.ok.hd hc) (by omega) fun s' p' out c' ms kp g o hp hgt hi hs hmem hl => ?_
  have ml : (ms.map V.int).length ≤ sizeLine := by rw [List.length_map, hl]; exact Nat.le_trans (show _ ≤ 64 by omega) (by decide)
  have hn : H1 p' = none := I2.hok.fresh hp
  have J : Inv X pins σ (upd H1 p' (.lst (ms.map V.int))) { ({ s1 with heap := h1, toks := tk } : Shared) with heap := s'.heap, gens := s'.gens, drawn := s'.drawn, toks := s'.toks } :=
    I2.call (ch := []) (Un.laid kp hp hn) (I2.hok.laid kp hp ⟨ml, out.toList, c', vals_of_ints hi, hgt⟩) (by rw [g]; exact I2.bare) (fun _ z => nomatch z)
  have e : s' = { ({ s1 with heap := h1, toks := tk } : Shared) with heap := s'.heap, gens := s'.gens, drawn := s'.drawn, toks := s'.toks } := by
    obtain ⟨_, _, _, _, _⟩ := s'
    cases o
    rfl
  rw [e]
  exact ⟨.ref p', _, J, rfl, (q1 ms hs (fun k => by rw [hmem]; simp)).go p' hn⟩
theorem u65 {k : Nat} {A : Around} (r : Room k A) : A.units + 65 < cLine := by have := r.un; omega
/-- x in xs, x not in xs of nested data -/
def rInD (neg : Bool) (K : PySem.W.Frag) : R2 := fun x y H Q => ∃ d ds, Dp K H x d ∧ Dp K H y (.list ds) ∧ SeqAt.shaped d = true ∧ SeqAt.shaped (.list ds) = true ∧ Q (.bl (if neg = true then !(ds.any fun e => PyData.eqv e d) else ds.any fun e => PyData.eqv e d)) H
theorem op_inD (hu : X.A.units + 65 < cLine) : OpR X (compareOp .In) (rInD false X.K) := by
  intro pins s σ H x y v u Q I rx ry ⟨d, ds, hd, he, sd, se, q⟩
  obtain ⟨as, r1⟩ := Dp.reads I d x v hd rx
  obtain ⟨bs, r2⟩ := Dp.reads I _ y u he ry
  exact in_list_reads r2 r1 (canLay_of_shaped se) (canLay_of_shaped sd) (room_in_shaped sd hu) ⟨.bl _, H, I, rfl, q⟩
theorem op_notInD (hu : X.A.units + 65 < cLine) : OpR X (compareOp .NotIn) (rInD true X.K) := by
  intro pins s σ H x y v u Q I rx ry ⟨d, ds, hd, he, sd, se, q⟩
  obtain ⟨as, r1⟩ := Dp.reads I d x v hd rx
  obtain ⟨bs, r2⟩ := Dp.reads I _ y u he ry
  exact notIn_list_reads r2 r1 (canLay_of_shaped se) (canLay_of_shaped sd) (room_in_shaped sd hu) ⟨.bl _, H, I, rfl, q⟩
variable {CX : CXT} {n : Nat} {f C : Addr} {fd : FuncData} {ps : List Str} {sp : Sp} {E : XK}
/-- a + b of an own class -/
def rAddO (C : Addr) (sp : Sp) (E : XK) : R2 := fun x y H Q => ∃ a b dx fs dy gs, x = .ref a ∧ y = .ref b ∧ H a = some (.ins C dx fs) ∧ H b = some (.ins C dy gs) ∧ sp [.ref a, .ref b] H (fun v H' => ∃ r, v = .ref r ∧ Q (.ref r) H') E
theorem op_addO (F : FnOk X.prog X.w X.K X.mg X.base CX n f fd ps sp) (hr : Room n X.A) (hs : PySem.W.findIn X.K (.ref C) "__add__" = some (some (.ref f))) (hf : PySem.W.isFn X.K (.ref f) = true) (hc : PySem.W.selfFirst X.K C = true) (hb : Binds X.K fd ps []) (hx : Passes CX X E) : OpR X (binaryOp .Add) (rAddO C sp E) := by
  intro pins s σ H x y v u Q I rx ry h
  obtain ⟨a, b, dx, fs, dy, gs, rfl, rfl, ha, hb', h⟩ := h
  cases rx
  cases ry
  obtain ⟨mA, J, _⟩ := ins_get I.hok ha
  obtain ⟨mB, J', _⟩ := ins_get I.hok hb'
  obtain ⟨od, J, _⟩ := J.look
  obtain ⟨od', J', _⟩ := J'.look
  obtain ⟨m, hF⟩ := I.fr
  refine PySem.W.binop_K (op := .Add) hF I.ok.mod.kin J J'.type hc hs hf ?_
  refine wpAny_mono (run_here (vs := [V.ref a, V.ref b]) F hr hb hx I (.cons rfl (.cons rfl .nil)) h) (fun u s' z => ?_) fun _ _ e => e
  obtain ⟨v, H', I', rv, r, rfl, q⟩ := z
  cases rv
  exact ⟨.ref r, H', I', rfl, q⟩
end
end My
set_option Elab.async false
set_option linter.all false
set_option maxRecDepth 100000
set_option maxHeartbeats 4000000
/-! [x for x in xs if t], xs a list of ints. -/
namespace My
open PySem PySem.Spec PyProof.Rows L2
theorem mapI_at {ts : List Int} {i : Nat} {x : V} (h : (ts.map V.int)[i]? = some x) : ∃ t, ts[i]? = some t ∧ x = V.int t := by
  rw [List.getElem?_map] at h
  cases q : ts[i]? with
  | none => rw [q] at h; cases h
  | some t => rw [q] at h; cases h; exact ⟨t, rfl, rfl⟩
theorem lc_filtI {K : PySem.W.Frag} {a : Addr} {ns : List Int} {p : Int → Bool} {j : Nat} {tt : TT} {te : TE} {vs : List Nat} {σ : L2.St} {H1 : Hp} {D : Addr} {Qd : Hp → Prop} (hx : SqL K H1 a (ns.map V.int)) (hD : H1 D = none) (hz : ns.length ≤ 1000)
    (hw : ∀ x, wipe ((wipe σ vs).set j (some x)) vs = wipe σ vs)
    (ht : ∀ n H', n ∈ ns → Ex H1 H' → ∀ R : Bool → Hp → Prop, (∀ H2, Ex H' H2 → R (p n) H2) → tt ((wipe σ vs).set j (some (.int n))) H' R)
    (he : ∀ n H' (N : VK), N (.int n) H' → te ((wipe σ vs).set j (some (.int n))) H' N)
    (k : ∀ H', Ex H1 H' → H' D = some (.lst ((ns.filter p).map V.int)) → Qd H') :
    ∃ W : Nat → Nat → Hp → Prop, (∃ m, W 0 m (upd H1 D (.lst []))) ∧ ∀ i m H, W i m H →
      ((Itl K a).stop i H ∧ Qd H) ∨ ((Itl K a).go i H ∧ ∃ Nx : Hp → Prop, (∀ H', Nx H' → ∃ m', m' < m ∧ W (i + 1) m' H') ∧ ∀ x H', (Itl K a).yld i H x H' → gName j x (wipe σ vs) H' fun σ2 H2 => wipe σ2 vs = wipe σ vs ∧ tt σ2 H2 fun b H3 =>
        if b = true then te σ2 H3 fun y H4 => ∃ acc, H4 D = some (.lst acc) ∧ acc.length < sizeLine ∧ Nx (upd H4 D (.lst (acc ++ [y]))) else Nx H3) := by
  refine lc_it (walk_list (K := K) (a := a) (xs := ns.map V.int)) (fun i H' => Ex H1 H' ∧ H' D = some (.lst (((ns.take i).filter p).map V.int))) ⟨Evl.Ex.new hD, upd_same⟩ (fun i H' _ z => Evl.ex_l z.1 hx) ?_ ?_
  · rintro i v HX H3 hi ⟨e3, d3⟩ ⟨rfl, hv⟩
    obtain ⟨n, hn, rfl⟩ := mapI_at hv
    rw [List.length_map] at hi
    refine ⟨hw _, ?_⟩
    show tt ((wipe σ vs).set j (some (.int n))) _ _
    refine ht n _ (List.mem_of_getElem? hn) e3 _ fun H4 e4 => ?_
    rw [take_snoc hn, List.filter_append, List.filter_cons]
    cases q : p n with
    | true =>
      refine iteT (he n _ _ ⟨_, e4 _ _ d3, ?_, Evl.Ex.mut (e3.trans e4) hD, ?_⟩)
      · rw [List.length_map]
        refine Nat.lt_of_le_of_lt (List.length_filter_le _ _) ?_
        rw [List.length_take]
        exact Nat.lt_of_le_of_lt (show _ ≤ 1000 by omega) (by decide)
      · rw [upd_same, List.map_append]
        rfl
    | false =>
      refine iteF ⟨e3.trans e4, ?_⟩
      rw [e4 _ _ d3]
      simp
  · rintro H' ⟨e', d'⟩
    rw [List.length_map, List.take_length] at d'
    exact k H' e' d'
end My
namespace My
open PySem PySem.Spec PyProof.Rows L2
/-- a walk within a comprehension -/
theorem piK {X : Cx} {K : PySem.W.Frag} {r : PySem.W.Frag → TE → TI} {tg it : Expr} {tl : TE} (h : X.K = K) (p : PI X tg it (r X.K tl)) : PI X tg it (r K tl) := h ▸ p
/-- lists of lists of ints, sorted -/
def srtL (L : List (List Int)) : List (List Int) := L.mergeSort (PySem.W.dataLe false (eL PyData.int))
theorem rowsLe : PySem.W.dataLe false (eL PyData.int : List Int → PyData) = fun p q => decide (p ≤ q) := PySem.W.dataLe_rows (β := List Int) id
theorem srtL_congr {A B : List (List Int)} (h : A.Perm B) : srtL A = srtL B := by
  unfold srtL
  rw [rowsLe]
  have pw : ∀ L : List (List Int), (L.mergeSort (fun p q => decide (p ≤ q))).Pairwise (· ≤ ·) := fun L => by
    have := List.pairwise_mergeSort (le := fun (p q : List Int) => decide (p ≤ q)) (fun a b c h1 h2 => by simp at *; exact List.le_trans h1 h2) (fun a b => by simpa using List.le_total a b) L
    exact this.imp fun h => by simpa using h
  exact List.Perm.eq_of_pairwise (le := (· ≤ ·)) (fun a b _ _ h1 h2 => List.le_antisymm h1 h2) (pw A) (pw B) ((List.mergeSort_perm _ _).trans (h.trans (List.mergeSort_perm _ _).symm))
theorem srtL_len (L : List (List Int)) : (srtL L).length = L.length := List.length_mergeSort ..
theorem inD_mem {α : Type} [DecidableEq α] {e : α → PyData} {n : Nat} (g : Good e n) (x : α) (L : List α) : ((L.map e).any fun d => PyData.eqv d (e x)) = decide (x ∈ L) := by
  rw [List.any_map, Bool.eq_iff_iff, List.any_eq_true, decide_eq_true_eq]
  constructor
  · rintro ⟨y, hy, h⟩
    have h : PyData.eqv (e y) (e x) = true := h
    rw [g.eqv] at h
    exact of_decide_eq_true h ▸ hy
  · intro h
    exact ⟨x, h, by show PyData.eqv (e x) (e x) = true; rw [g.eqv]; exact decide_eq_true rfl⟩
theorem alikeLs (cs : List (List Int)) : PySem.W.AllAlike (cs.map (eL PyData.int)) := PySem.W.AllAlike.of fun b b' => by
  unfold eL
  rw [PySem.W.alike]
  exact PySem.W.alike_ints b b'
theorem sortLs (cs : List (List Int)) : PySem.W.Sortable (cs.map (eL PyData.int)) := PySem.W.Sortable.others fun b => ⟨(by intro z; cases z), (by intro xs z; cases z)⟩
theorem depLs (cs : List (List Int)) : ∀ d ∈ cs.map (eL PyData.int), d.depth ≤ 60 := fun d hd => by
  obtain ⟨c, _, rfl⟩ := List.mem_map.mp hd
  have := (goodL goodI).dep c
  omega
end My
set_option Elab.async false
set_option linter.all false
set_option maxRecDepth 100000
set_option maxHeartbeats 4000000
/-! enumerate of a tuple. -/
namespace My
open PySem PySem.Spec PyProof.Rows L2
set_option maxHeartbeats 1000000 in
theorem meets_enumerate_newT (l : Addr) (items : Array Value) :
    Meets (Builtin.«enumerate.__new__» ⟨[.type "enumerate", .ref l], []⟩) (fun _ R s => s.heap.IsTuple l items ∧
      R (.ok (.ret (.ref (s.heap.push { cls := .type "tuple_iterator", data := .fields #[.ref l, .int 0 0] }).objs.size)))
        { s with heap := (s.heap.push { cls := .type "tuple_iterator", data := .fields #[.ref l, .int 0 0] }).push { cls := .type "enumerate", data := .fields #[.none, .bool false, .ref s.heap.objs.size, rawInt 0, .none, .none] } }) :=
  .of_wp fun prog w A R s h => by
    obtain ⟨hp, g, d, tk, os⟩ := s; obtain ⟨h1, h⟩ := h
    have hsub := sub_enumerate
    have q1 : ∀ {A' : Around} {E : Value → Shared → Prop} {Q : Value → Shared → Prop}, Q (.ref hp.objs.size) ⟨hp.push { cls := .type "tuple_iterator", data := .fields #[.ref l, .int 0 0] }, g, d, tk, os⟩ → wpAny (model prog w) A' (pyIter (.ref l)) Q E ⟨hp, g, d, tk, os⟩ :=
      fun q => (begins_tuple l items).iter prog w _ _ ⟨hp, g, d, tk, os⟩ _ h1 q
    wp_walk using q1
    refine wpAny_stack_any fun st => wpAny_pure ?_
    split
    · rename_i c _ _ _ _ _
      cases (c == Value.type "enumerate")
      · wp_walk using q1
        exact ⟨_, rfl, h⟩
      · wp_walk using q1
        exact ⟨_, rfl, h⟩
    · wp_walk using q1
      exact ⟨_, rfl, h⟩
section
variable {prog : Program} {w : World} {A : Around} {E : Value → Shared → Prop} {s : Shared}
theorem call_enumerate_tuple {l : Addr} {items : Array Value} {Q : Value → Shared → Prop} (hL : s.heap.IsTuple l items)
    (h : ∀ h', IsEnum h' (s.heap.objs.size + 1) s.heap.objs.size 0 .none → h'.IsTupleIter s.heap.objs.size l 0 → h'.objs.size = s.heap.objs.size + 2 →
      (∀ b o, s.heap.get? b = some o → h'.get? b = some o) → Q (.ref (s.heap.objs.size + 1)) { s with heap := h' }) :
    wpAny (model prog w) A (call (.type "enumerate") [.ref l]) Q E s := by
  refine callType_new F.called_enumerate (by decide) (F.typeCall_enumerate_1 _) (F.newCall_enumerate_1 _) (fun obj => F.args_object_init_2 obj _) F.entry_enumerate_new
    (meets_enumerate_newT l items) ⟨hL, ?_⟩
  have hz : (s.heap.push { cls := .type "tuple_iterator", data := .fields #[.ref l, .int 0 0] }).objs.size = s.heap.objs.size + 1 := Heap.size_push ..
  show _ ∧ _
  rw [hz]
  have he : IsEnum ((s.heap.push { cls := .type "tuple_iterator", data := .fields #[.ref l, .int 0 0] }).push
      { cls := .type "enumerate", data := .fields #[.none, .bool false, .ref s.heap.objs.size, rawInt 0, .none, .none] }) (s.heap.objs.size + 1) s.heap.objs.size 0 .none := by
    have := Heap.get?_push_size (s.heap.push { cls := .type "tuple_iterator", data := .fields #[.ref l, .int 0 0] })
      (o := { cls := .type "enumerate", data := .fields #[.none, .bool false, .ref s.heap.objs.size, rawInt 0, .none, .none] }) rfl
    rw [hz] at this; exact this
  refine ⟨⟨_, he, rfl⟩, h _ he ⟨_, Heap.get?_push_of_some _ (Heap.get?_push_size _ rfl), rfl, rfl⟩ (by rw [Heap.size_push, hz]) fun b o x => Heap.get?_push_of_some _ (Heap.get?_push_of_some _ x)⟩
end
/-- the tuple at a as it stands at each turn, each item in a new pair -/
def Itet (K : PySem.W.Frag) (a : Addr) : It :=
  ⟨fun i H => ∃ (xs : List V) (x : V), SqT K H a xs ∧ xs[i]? = some x, fun i H v H' => ∃ T x, v = .ref T ∧ H T = none ∧ H' = upd H T (.tup [.int (i : Nat), x]) ∧ ∀ xs, SqT K H a xs → xs[i]? = some x, fun i H => ∃ xs : List V, SqT K H a xs ∧ xs.length = i⟩
theorem tup_apart {h : Heap} {e it a : Addr} {items : Array Value} {n : Int} {old : Value} {i : Nat} (he : IsEnum h e it n old) (hit : h.IsTupleIter it a i) (p : h.IsTuple a items) : a ≠ it ∧ a ≠ e := by
  obtain ⟨o, ho, hc, _⟩ := p
  obtain ⟨o2, ho2, hc2, _⟩ := hit
  refine ⟨fun z => ?_, fun z => ?_⟩
  · subst z
    rw [ho] at ho2
    cases ho2
    rw [hc] at hc2
    exact absurd hc2 (by decide)
  · subst z
    have he : h.get? a = _ := he
    rw [ho] at he
    cases he
    exact absurd (show Value.type "enumerate" = Value.type "tuple" from hc) (by decide)
theorem turn_enumT {P : Program} {w : World} {K : PySem.W.Frag} {elts : List Expr} {kk : Nat} {tpos : Pos} (a e it : Addr) :
    Turn P w K (.Tuple elts kk tpos) (Itet K a) [e, it] e (fun i h => (∃ old, IsEnum h e it ((i : Nat) : Int) old) ∧ h.IsTupleIter it a i ∧ e ≠ it) where
  mem := by simp
  obj := fun i h st b hb => by
    obtain ⟨⟨old, he⟩, ⟨o, ho, hc, hd⟩, _⟩ := st
    have e' : b = e ∨ b = it := by simpa using hb
    rcases e' with z | z
    · rw [z]; exact ⟨_, he, fun v q => nomatch q⟩
    · rw [z]; exact ⟨o, ho, fun v q => by rw [hd] at q; cases q⟩
  keep := fun i h h' st k => let ⟨⟨old, he⟩, hi, hne⟩ := st; ⟨⟨old, k e (by simp) _ he⟩, hi.at fun o q => k it (by simp) o q, hne⟩
  item := by
    intro X hP hw hK hc i pins s σ H E I hf st hg
    subst hP hw hK
    obtain ⟨⟨old, he⟩, hit, hne⟩ := st
    obtain ⟨xs, x, hq, hx⟩ := hg
    obtain ⟨its, rv, p, hz⟩ := I.tuple hq
    obtain ⟨u, hu, ru⟩ := rv.get hx
    have hel : e < s.heap.objs.size := Heap.lt_size he
    have hil : it < s.heap.objs.size := by obtain ⟨_, q, _⟩ := hit; exact Heap.lt_size q
    obtain ⟨na1, na2⟩ := tup_apart he hit p
    have hlt : i < its.toArray.size := by
      rw [List.size_toArray]
      exact (List.getElem?_eq_some_iff.mp hu).1
    refine wpAny_pyNext_enum_itemC (Draws.tuple (show X.A.in1.handled = none from I.ok.hd hc) it a na1 its.toArray) he ⟨hit, p⟩ hlt hne (by simp [hne, na2.symm]) fun x' h' tk hP ho hst' hT hsz hk => ?_
    have ex : x' = u := by
      have hP : its.toArray[i]? = some x' := hP
      simp only [List.getElem?_toArray] at hP
      rw [hu] at hP
      exact (Option.some.inj hP).symm
    subst ex
    refine ⟨_, rfl, wpAny_letOwnedTupleGo_enum (s := { s with heap := h', toks := tk + 1 }) ho fun h'' he' sb => ?_⟩
    have hT2 : h''.get? s.heap.objs.size = some { cls := .type "tuple", data := .seq #[.int i tk, x'] } := (sb.2 _ (Nat.ne_of_gt hel)).trans hT
    have new : ObjOk X.prog X.w (upd H s.heap.objs.size (.tup [.int (i : Nat), x])) h'' s.heap.objs.size (.tup [.int (i : Nat), x]) :=
      ⟨by show 2 ≤ sizeLine; decide, [.int i tk, x'], .cons ⟨_, rfl⟩ (.cons ru .nil), ⟨_, hT2, rfl, _, rfl⟩⟩
    have I1 : Inv X pins σ (upd H s.heap.objs.size (.tup [.int (i : Nat), x])) { s with heap := h'', toks := tk + 1 } :=
      I.turnedNew (ch := [e, it]) (fun b ob hb q => (sb.2 b (fun z => hb (by simp [z]))).trans (hk b ob (fun z => hb (by simp [z])) (fun z => hb (by simp [z])) q)) hf (Nat.le_refl _) new
    refine ⟨.ref s.heap.objs.size, _, I1, rfl, ⟨_, x, rfl, I.hok.fresh (Nat.le_refl _), rfl, fun ys hy => by rw [I.tuple_inj hy hq]; exact hx⟩, ⟨⟨x', ?_⟩, hst'.1.at fun o q => (sb.2 it (Ne.symm hne)).trans q, hne⟩, fun b hb => ?_⟩
    · have e1 : ((i + 1 : Nat) : Int) = (i : Int) + 1 := by omega
      rw [e1]; exact he'
    · have hb' : b < s.heap.objs.size := by
        have e' : b = e ∨ b = it := by simpa using hb
        rcases e' with z | z
        · rw [z]; exact hel
        · rw [z]; exact hil
      rw [upd_ne (Nat.ne_of_lt hb')]
      exact (hf b hb).1
  done := by
    intro X hP hw hK hc i pins s σ H E I hf st hg
    subst hP hw hK
    obtain ⟨⟨old, he⟩, hit, hne⟩ := st
    obtain ⟨xs, hq, hx⟩ := hg
    obtain ⟨its, rv, p, hz⟩ := I.tuple hq
    obtain ⟨f0, f1, f2, f3, f4, f5⟩ := hf it (by simp)
    have hl := rv.length
    obtain ⟨na1, na2⟩ := tup_apart he hit p
    have en : i = its.toArray.size := by
      rw [List.size_toArray]
      omega
    subst en
    exact wpAny_pyNext_enum_endD (Draws.tuple (show X.A.in1.handled = none from I.ok.hd hc) it a na1 its.toArray) he ⟨hit, p⟩ fun h' eb => ⟨rfl, I.turned (t' := s.toks) (fun b o hb q => eb b o hb q) f0 f1 f3 f4 f5⟩
  self := fun A i s Q E st h => let ⟨⟨_, he⟩, _⟩ := st; wpAny_pyIter_enum he h
def iEnumT (K : PySem.W.Frag) (ta : TA) : TI := fun σ H R => ta σ H fun vs H1 => ∃ a xs, vs = [.ref a] ∧ SqT K H1 a xs ∧ R (Itet K a) H1
theorem pi_enumT {X : Cx} {e : Expr} {ta : TA} {p pos tpos : Pos} {elts : List Expr} {kk : Nat} (hg : Gl X "enumerate") (hm : X.mg "enumerate" = none) (ha : PA X [e] ta) (hs : starEach [e] X.env = [(false, eval e X.env)] := by rfl) :
    PI X (.Tuple elts kk tpos) (.Call (.Name "enumerate" p) [e] [] pos) (iEnumT X.K ta) := by
  refine ⟨fun pins s σ H R I h => ?_⟩
  refine Call_ (ld_blt I hg hm boot_enumerate (PyProof.Rows.callWith_type1 (thn (ha.run pos pins s σ H _ I h) fun us s1 ⟨vs, H1, I1, r1, q1⟩ => ?_) hs rfl))
  obtain ⟨a, xs, ex, hq, q⟩ := q1
  subst ex
  cases r1 with
  | cons r rr =>
    cases rr
    cases r
    obtain ⟨its, rv, p', hz⟩ := I1.tuple hq
    refine call_enumerate_tuple p' fun h' he hit hsz hk => wpAny_pyIter_enum he ?_
    have I2 : Inv X pins σ H1 { s1 with heap := h' } := I1.kept (t' := s1.toks) hk
    refine ⟨s1.heap.objs.size + 1, [s1.heap.objs.size + 1, s1.heap.objs.size], _, _, H1, rfl, I2, turn_enumT a (s1.heap.objs.size + 1) s1.heap.objs.size, ⟨⟨.none, he⟩, hit, Nat.succ_ne_self _⟩, fun b hb => ?_, q⟩
    have e' : b = s1.heap.objs.size + 1 ∨ b = s1.heap.objs.size := by simpa using hb
    have hle : s1.heap.objs.size ≤ b := by
      rcases e' with z | z
      · rw [z]; exact Nat.le_add_right _ _
      · rw [z]; exact Nat.le_refl _
    exact I1.fpOk hle (I1.hok.fresh hle)
theorem walk_enumT {K : PySem.W.Frag} {a : Addr} {xs : List V} : Walk (Itet K a) xs.length (fun H => SqT K H a xs) (YPair (fun i => some (.int (i : Nat))) (fun i => xs[i]?)) := by
  refine ⟨fun i _ hi q => ⟨xs, xs[i], q, by simp [hi]⟩, fun _ q => ⟨xs, q, rfl⟩, fun i H v H' _ q y => ?_⟩
  obtain ⟨T, x, h1, h2, h3, h4⟩ := y
  exact ⟨T, .int (i : Nat), x, h1, h2, h3, rfl, h4 xs q⟩
end My
set_option Elab.async false
set_option linter.all false
set_option maxRecDepth 100000
set_option maxHeartbeats 4000000
/-! len(set(xs)) of a list of ints with doubles. -/
namespace My
open PySem PySem.Spec PyProof.Rows L2
/-- so many different ones -/
def Diff (ns : List Int) (c : Nat) : Prop := ∃ ms : List Int, ms.Nodup ∧ (∀ k, k ∈ ms ↔ k ∈ ns) ∧ ms.length = c
def tLenSetG (K : PySem.W.Frag) (ta : TE) : TE := fun σ H Q => ta σ H fun x H1 => ∃ (l : Addr) (ns : List Int), x = V.ref l ∧ SqL K H1 l (ns.map V.int) ∧ ns.length ≤ 2000 ∧ ∀ c : Nat, Diff ns c → Q (.int (c : Nat)) H1
theorem pe_lenSetG {X : Cx} {a : Expr} {ta : TE} {p p2 q pos : Pos} (hg : Gl X "len") (hm : X.mg "len" = none) (hg2 : Gl X "set") (hm2 : X.mg "set" = none) (ha : PE X a ta) (hc : X.calm = true := by rfl)
    (na : starEach [a] X.env = (false, eval a X.env) :: starEach [] X.env := by rfl) : PE X (.Call (.Name "len" p) [.Call (.Name "set" p2) [a] [] q] [] pos) (tLenSetG X.K ta) := by
  refine ⟨fun pins s σ H Q I h => ?_⟩
  refine Call_ (ld_blt I hg hm boot_len ?_)
  refine PyProof.Rows.callWith_builtin1 (PyProof.Rows.args_cons ?_ rfl) rfl rfl
  refine Call_ (ld_blt I hg2 hm2 PyProof.Rows.boot_set ?_)
  refine PyProof.Rows.callWith_type1 (PyProof.Rows.args_cons (thn (ha.run pins s σ H _ I h) fun v s1 ⟨x, H1, I1, r1, q1⟩ => PyProof.Rows.args_nil ?_) na) na rfl
  obtain ⟨l, ns, rfl, hq, hz, q1⟩ := q1
  cases r1
  obtain ⟨its, r, pl, _⟩ := I1.list hq
  refine call_set_lst ns (I1.ok.hd hc) pl.isList (by simpa using r.ints) (by unfold scanBound; omega) fun h1 tk c hS hc1 hk => ?_
  refine PyProof.Rows.args_nil ?_
  obtain ⟨o, es, ep, t, ho, hex, hd, _, hnd, hS2, _, hf, hn, _⟩ := hS
  have I2 : Inv X pins σ H1 { s1 with heap := h1, toks := tk } := I1.kept hk
  refine call_len_set ho hex hd hf (by rw [hn]; omega) ⟨.int c, H1, I2.tok _, ⟨_, by rw [hn]⟩, q1 c ⟨es.toList.map keyOf, hnd, fun k => ?_, ?_⟩⟩
  · rw [← hS2 k]
    simp
  · rw [List.length_map, Array.length_toList]
    exact hn
theorem diff_nodup {ns : List Int} {c : Nat} (h : Diff ns c) : c = ns.length ↔ ns.Nodup := by
  obtain ⟨ms, h1, h2, h3⟩ := h
  subst h3
  constructor
  · intro e
    -- ms is nodup, the same members, as long: ns has no doubles
    have : ∀ {ns ms : List Int}, ms.Nodup → (∀ k, k ∈ ms → k ∈ ns) → ns.length ≤ ms.length → ns.Nodup := fun {ns} => by
      induction ns with
      | nil => intro ms _ _ _; exact List.nodup_nil
      | cons x ns ih =>
        intro ms hm hs hl
        have h0 : x ∈ ms ∧ x ∉ ns := by
          by_cases a : x ∈ ms
          · refine ⟨a, fun b => ?_⟩
            have := nodup_len (l := ms) (m := ns) hm fun k hk => by
              rcases List.mem_cons.mp (hs k hk) with z | z
              · rw [z]; exact b
              · exact z
            rw [List.length_cons] at hl
            omega
          · exfalso
            have := nodup_len (l := ms) (m := ns) hm fun k hk => by
              rcases List.mem_cons.mp (hs k hk) with z | z
              · rw [z] at hk; exact absurd hk a
              · exact z
            rw [List.length_cons] at hl
            omega
        refine List.nodup_cons.mpr ⟨h0.2, ih (ms := ms.erase x) (hm.erase x) (fun k hk => ?_) ?_⟩
        · have hk' := List.mem_of_mem_erase hk
          rcases List.mem_cons.mp (hs k hk') with z | z
          · rw [z] at hk
            exact absurd hk (fun y => (List.Nodup.mem_erase_iff hm).mp y |>.1 rfl)
          · exact z
        · rw [List.length_erase_of_mem h0.1]
          rw [List.length_cons] at hl
          omega
    exact this h1 (fun k hk => (h2 k).mp hk) (by omega)
  · intro hn
    exact Nat.le_antisymm (nodup_len h1 fun k hk => (h2 k).mp hk) (nodup_len hn fun k hk => (h2 k).mpr hk)
end My
set_option Elab.async false
set_option linter.all false
set_option maxRecDepth 100000
set_option maxHeartbeats 4000000
/-! len(set(xs)) of a list of tuples of ints, up to 63 of them. -/
namespace My
open PySem PySem.Spec PyProof.Rows L2
def TuR (K : PySem.W.Frag) (H : Hp) (v : V) (r : List Int) : Prop := ∃ q, v = .ref q ∧ SqT K H q (r.map V.int)
/-- so many different ones -/
def DiffT (rows : List (List Int)) (c : Nat) : Prop := ∃ ms : List (List Int), ms.Nodup ∧ (∀ k, k ∈ ms ↔ k ∈ rows) ∧ ms.length = c
def tLenSetT (K : PySem.W.Frag) (ta : TE) : TE := fun σ H Q => ta σ H fun x H1 => ∃ (l : Addr) (us : List V) (rows : List (List Int)), x = V.ref l ∧ SqL K H1 l us ∧ AllR (TuR K H1) us rows ∧ rows.length < 64 ∧ ∀ c : Nat, DiffT rows c → Q (.int (c : Nat)) H1
theorem tuR_split {K : PySem.W.Frag} {H : Hp} : ∀ {us : List V} {rows : List (List Int)}, AllR (TuR K H) us rows → ∃ ks : List (Addr × List Int), us = ks.map (fun p => V.ref p.1) ∧ rows = ks.map (·.2) ∧ ∀ p ∈ ks, SqT K H p.1 (p.2.map V.int)
  | [], [], _ => ⟨[], rfl, rfl, fun p h => nomatch h⟩
  | [], _ :: _, a => nomatch a.1
  | _ :: _, [], a => nomatch a.1
  | v :: us, r :: rows, a => by
    obtain ⟨q, rfl, hq⟩ := a.2 0 v r rfl rfl
    obtain ⟨ks, h1, h2, h3⟩ := tuR_split (us := us) (rows := rows) ⟨Nat.succ.inj a.1, fun i v x y z => a.2 (i + 1) v x y z⟩
    refine ⟨(q, r) :: ks, by rw [h1]; rfl, by rw [h2]; rfl, fun p hp => ?_⟩
    rcases List.mem_cons.mp hp with z | z
    · rw [z]; exact hq
    · exact h3 p z
theorem pe_lenSetT {X : Cx} {a : Expr} {ta : TE} {p p2 q pos : Pos} (hu : X.A.units + 64 < cLine) (hg : Gl X "len") (hm : X.mg "len" = none) (hg2 : Gl X "set") (hm2 : X.mg "set" = none) (ha : PE X a ta) (hc : X.calm = true := by rfl)
    (na : starEach [a] X.env = (false, eval a X.env) :: starEach [] X.env := by rfl) : PE X (.Call (.Name "len" p) [.Call (.Name "set" p2) [a] [] q] [] pos) (tLenSetT X.K ta) := by
  refine ⟨fun pins s σ H Q I h => ?_⟩
  refine Call_ (ld_blt I hg hm boot_len ?_)
  refine PyProof.Rows.callWith_builtin1 (PyProof.Rows.args_cons ?_ rfl) rfl rfl
  refine Call_ (ld_blt I hg2 hm2 PyProof.Rows.boot_set ?_)
  refine PyProof.Rows.callWith_type1 (PyProof.Rows.args_cons (thn (ha.run pins s σ H _ I h) fun v s1 ⟨x, H1, I1, r1, q1⟩ => PyProof.Rows.args_nil ?_) na) na rfl
  obtain ⟨l, us, rows, rfl, hq, ar, hz, q1⟩ := q1
  cases r1
  obtain ⟨ks, rfl, rfl, hk⟩ := tuR_split ar
  obtain ⟨its, r, pl, _⟩ := I1.list hq
  rw [List.length_map] at hz
  refine call_set_tups (P := X.prog) (w := X.w) ks (I1.ok.hd hc) pl.isList (by simpa using refs_of_vals r) (fun p hp => I1.isT (hk p hp)) hz (by omega) fun h' tk L es ep t R g k => ?_
  refine PyProof.Rows.args_nil ?_
  obtain ⟨o, ho, hex, hd⟩ := R.ob
  have I2 : Inv X pins σ H1 { s1 with heap := h', toks := tk } := I1.kept k
  have hs : es.size = L.length := SetTR.size (s := { s1 with heap := h', toks := tk }) R
  have hf : t.fits es.size = true := SetTR.fits (s := { s1 with heap := h', toks := tk }) R
  refine call_len_set ho hex hd hf (by rw [hs]; have := R.few; omega) ⟨.int L.length, H1, I2.tok _, ⟨_, by rw [hs]⟩, q1 L.length ⟨L.map (·.2), R.nd, fun k => ?_, by rw [List.length_map]⟩⟩
  constructor
  · intro h
    obtain ⟨p, hp, rfl⟩ := List.mem_map.mp h
    exact List.mem_map.mpr ⟨p, List.mem_of_mem_take (g.sub p hp), rfl⟩
  · intro h
    obtain ⟨p, hp, rfl⟩ := List.mem_map.mp h
    exact g.all p (by rw [List.take_length]; exact hp)
theorem pa_starK {X : Cx} {K : PySem.W.Frag} {e : Expr} {es : List Expr} {p : Pos} {te : TE} {t : TA} (h : X.K = K) (he : PE X e te) (hr : PA X es t) (hs : starEach (.Starred e p :: es) X.env = (true, eval e X.env) :: starEach es X.env := by rfl) : PA X (.Starred e p :: es) (StX.tStar K te t) := h ▸ StX.pa_star he hr hs
theorem mtK {X : Cx} {K : PySem.W.Frag} {f : String} {r : PySem.W.Frag → V → List V → Hp → VK → Prop} (h : X.K = K) (c : MtR X f (r X.K)) : MtR X f (r K) := h ▸ c
end My
set_option Elab.async false
set_option linter.all false
set_option maxRecDepth 100000
set_option maxHeartbeats 4000000
/-! further comprehensions over lists: any target; kept objects. -/
namespace My
open PySem PySem.Spec PyProof.Rows L2
/-- no tests, any target, the values known -/
theorem lc_mapG {K : PySem.W.Frag} {a : Addr} {xs ys : List V} {g : TG} {te : TE} {vs : List Nat} {σ : L2.St} {H1 : Hp} {D : Addr} {Qd : Hp → Prop} (hx : SqL K H1 a xs) (hD : H1 D = none) (hl : ys.length = xs.length) (hz : xs.length ≤ sizeLine)
    (he : ∀ (i : Nat) x y H', Ex H1 H' → xs[i]? = some x → ys[i]? = some y → ∀ (N : VK) (Z : Hp → Prop), (∀ H2, Ex H' H2 → N y H2) → g x (wipe σ vs) H' fun σ2 H2 => wipe σ2 vs = wipe σ vs ∧ tYes σ2 H2 fun b H3 => if b = true then te σ2 H3 N else Z H3)
    (k : ∀ H', Ex H1 H' → H' D = some (.lst ys) → Qd H') :
    ∃ W : Nat → Nat → Hp → Prop, (∃ m, W 0 m (upd H1 D (.lst []))) ∧ ∀ i m H, W i m H →
      ((Itl K a).stop i H ∧ Qd H) ∨ ((Itl K a).go i H ∧ ∃ Nx : Hp → Prop, (∀ H', Nx H' → ∃ m', m' < m ∧ W (i + 1) m' H') ∧ ∀ x H', (Itl K a).yld i H x H' → g x (wipe σ vs) H' fun σ2 H2 => wipe σ2 vs = wipe σ vs ∧ tYes σ2 H2 fun b H3 =>
        if b = true then te σ2 H3 fun y H4 => ∃ acc, H4 D = some (.lst acc) ∧ acc.length < sizeLine ∧ Nx (upd H4 D (.lst (acc ++ [y]))) else Nx H3) := by
  refine lc_objL (R := fun _ v (y : V) => v = y) hx hD hl hz (fun _ _ _ _ r _ => r) (fun i x y H' e _ hx hy N Z kN => he i x y H' e hx hy N Z fun H2 e2 => kN y H2 e2 rfl) fun H' us e d r => k H' e ?_
  have : us = ys := by
    refine List.ext_getElem? fun i => ?_
    cases z : us[i]? with
    | none => rw [List.getElem?_eq_none (by rw [← r.1]; exact List.getElem?_eq_none_iff.mp z)]
    | some v =>
      obtain ⟨y, h1, h2⟩ := r.get z
      rw [h1, h2]
  rw [← this]
  exact d
/-- the items of which p holds, themselves -/
theorem lc_filtO {α : Type} {K : PySem.W.Frag} {a : Addr} {xs : List V} {ys : List α} {R : V → α → Prop} {p : α → Bool} {j : Nat} {tt : TT} {te : TE} {vs : List Nat} {σ : L2.St} {H1 : Hp} {D : Addr} {Qd : Hp → Prop} (hx : SqL K H1 a xs) (hR : AllR R xs ys) (hD : H1 D = none) (hz : xs.length ≤ 1000)
    (hw : ∀ x, wipe ((wipe σ vs).set j (some x)) vs = wipe σ vs)
    (ht : ∀ v y H', y ∈ ys → R v y → Ex H1 H' → ∀ Z : Bool → Hp → Prop, (∀ H2, Ex H' H2 → Z (p y) H2) → tt ((wipe σ vs).set j (some v)) H' Z)
    (he : ∀ v H' (N : VK), N v H' → te ((wipe σ vs).set j (some v)) H' N)
    (k : ∀ H' us, Ex H1 H' → H' D = some (.lst us) → AllR R us (ys.filter p) → Qd H') :
    ∃ W : Nat → Nat → Hp → Prop, (∃ m, W 0 m (upd H1 D (.lst []))) ∧ ∀ i m H, W i m H →
      ((Itl K a).stop i H ∧ Qd H) ∨ ((Itl K a).go i H ∧ ∃ Nx : Hp → Prop, (∀ H', Nx H' → ∃ m', m' < m ∧ W (i + 1) m' H') ∧ ∀ x H', (Itl K a).yld i H x H' → gName j x (wipe σ vs) H' fun σ2 H2 => wipe σ2 vs = wipe σ vs ∧ tt σ2 H2 fun b H3 =>
        if b = true then te σ2 H3 fun y H4 => ∃ acc, H4 D = some (.lst acc) ∧ acc.length < sizeLine ∧ Nx (upd H4 D (.lst (acc ++ [y]))) else Nx H3) := by
  refine lc_it (walk_list (K := K) (a := a) (xs := xs)) (fun i H' => ∃ us, Ex H1 H' ∧ H' D = some (.lst us) ∧ us.length ≤ i ∧ AllR R us ((ys.take i).filter p)) ⟨[], Evl.Ex.new hD, upd_same, Nat.le_refl _, AllR.nil⟩ (fun i H' _ ⟨_, e, _⟩ => Evl.ex_l e hx) ?_ ?_
  · rintro i v HX H3 hi ⟨us, e3, d3, l3, a3⟩ ⟨rfl, hv⟩
    obtain ⟨y, hy, r⟩ := hR.get hv
    refine ⟨hw _, ?_⟩
    show tt ((wipe σ vs).set j (some v)) _ _
    refine ht v y _ (List.mem_of_getElem? hy) r e3 _ fun H4 e4 => ?_
    rw [take_snoc hy, List.filter_append, List.filter_cons]
    cases q : p y with
    | true =>
      refine iteT (he v _ _ ⟨us, e4 _ _ d3, Nat.lt_of_le_of_lt (show _ ≤ 1000 by omega) (by decide), us ++ [v], Evl.Ex.mut (e3.trans e4) hD, upd_same, by simp; omega, ?_⟩)
      exact AllR.snoc a3 r
    | false =>
      refine iteF ⟨us, e3.trans e4, e4 _ _ d3, by omega, ?_⟩
      simpa using a3
  · rintro H' ⟨us, e', d', l', a'⟩
    rw [List.take_of_length_le (by rw [← hR.1]; exact Nat.le_refl _)] at a'
    exact k H' us e' d' a'
/-- ints of a range, with a test -/
theorem lc_filtR {lo : Int} {n : Nat} {p : Int → Bool} {j : Nat} {tt : TT} {te : TE} {vs : List Nat} {σ : L2.St} {H1 : Hp} {D : Addr} {Qd : Hp → Prop} (hD : H1 D = none) (hz : n ≤ 1000)
    (hw : ∀ x, wipe ((wipe σ vs).set j (some x)) vs = wipe σ vs)
    (ht : ∀ (i : Nat) H', i < n → Ex H1 H' → ∀ Z : Bool → Hp → Prop, (∀ H2, Ex H' H2 → Z (p (lo + i)) H2) → tt ((wipe σ vs).set j (some (.int (lo + i)))) H' Z)
    (he : ∀ v H' (N : VK), N v H' → te ((wipe σ vs).set j (some v)) H' N)
    (k : ∀ H', Ex H1 H' → H' D = some (.lst ((((List.range n).map fun i => lo + ((i : Nat) : Int)).filter p).map V.int)) → Qd H') :
    ∃ W : Nat → Nat → Hp → Prop, (∃ m, W 0 m (upd H1 D (.lst []))) ∧ ∀ i m H, W i m H →
      ((Itr lo n).stop i H ∧ Qd H) ∨ ((Itr lo n).go i H ∧ ∃ Nx : Hp → Prop, (∀ H', Nx H' → ∃ m', m' < m ∧ W (i + 1) m' H') ∧ ∀ x H', (Itr lo n).yld i H x H' → gName j x (wipe σ vs) H' fun σ2 H2 => wipe σ2 vs = wipe σ vs ∧ tt σ2 H2 fun b H3 =>
        if b = true then te σ2 H3 fun y H4 => ∃ acc, H4 D = some (.lst acc) ∧ acc.length < sizeLine ∧ Nx (upd H4 D (.lst (acc ++ [y]))) else Nx H3) := by
  refine lc_range (fun i H' => Ex H1 H' ∧ H' D = some (.lst ((((List.range i).map fun i => lo + ((i : Nat) : Int)).filter p).map V.int))) ⟨Evl.Ex.new hD, upd_same⟩ ?_ ?_
  · rintro i H3 hi ⟨e3, d3⟩
    refine ⟨hw _, ?_⟩
    show tt ((wipe σ vs).set j (some (.int (lo + i)))) _ _
    refine ht i _ hi e3 _ fun H4 e4 => ?_
    rw [List.range_succ, List.map_append, List.filter_append, List.map_cons, List.map_nil, List.filter_cons]
    cases q : p (lo + i) with
    | true =>
      refine iteT (he _ _ _ ⟨_, e4 _ _ d3, ?_, Evl.Ex.mut (e3.trans e4) hD, ?_⟩)
      · rw [List.length_map]
        refine Nat.lt_of_le_of_lt (List.length_filter_le _ _) ?_
        rw [List.length_map, List.length_range]
        exact Nat.lt_of_le_of_lt (show _ ≤ 1000 by omega) (by decide)
      · rw [upd_same, List.map_append]
        rfl
    | false =>
      refine iteF ⟨e3.trans e4, ?_⟩
      rw [e4 _ _ d3]
      simp
  · rintro H' ⟨e', d'⟩
    exact k H' e' d'
end My
set_option Elab.async false
set_option linter.all false
set_option maxRecDepth 100000
set_option maxHeartbeats 4000000
/-! displays of lists and tuples all of whose parts are known data. -/
namespace My
open PySem PySem.Spec PyProof.Rows L2
mutual
theorem dpEx {K : PySem.W.Frag} {H H' : Hp} (e : Ex H H') : ∀ {v : V} {d : PyData}, Dp K H v d → Dp K H' v d
  | _, _, .non => .non
  | _, _, .bl b => .bl b
  | _, _, .int i => .int i
  | _, _, .str x => .str x
  | _, _, .lst h a => .lst (Evl.ex_l e h) (dpAllEx e a)
  | _, _, .tup h a => .tup (Evl.ex_t e h) (dpAllEx e a)
theorem dpAllEx {K : PySem.W.Frag} {H H' : Hp} (e : Ex H H') : ∀ {vs : List V} {ds : List PyData}, DpAll K H vs ds → DpAll K H' vs ds
  | _, _, .nil => .nil
  | _, _, .cons h a => .cons (dpEx e h) (dpAllEx e a)
end
theorem dpAll_len {K : PySem.W.Frag} {H : Hp} : ∀ {vs : List V} {ds : List PyData}, DpAll K H vs ds → vs.length = ds.length
  | _, _, .nil => rfl
  | _, _, .cons _ a => by simp [dpAll_len a]
theorem dpAll_app {K : PySem.W.Frag} {H : Hp} : ∀ {vs us : List V} {ds es : List PyData}, DpAll K H vs ds → DpAll K H us es → DpAll K H (vs ++ us) (ds ++ es)
  | _, _, _, _, .nil, b => b
  | _, _, _, _, .cons h a, b => .cons h (dpAll_app a b)
theorem dpAll_at {K : PySem.W.Frag} {H : Hp} : ∀ {vs : List V} {ds : List PyData} (_ : DpAll K H vs ds) {i : Nat} {v : V}, vs[i]? = some v → ∃ d, ds[i]? = some d ∧ Dp K H v d
  | _, _, .nil, i, v, h => by cases h
  | _, _, .cons h a, 0, v, e => by cases e; exact ⟨_, rfl, h⟩
  | _, _, .cons h a, i + 1, v, e => dpAll_at a e
def tLit (K : PySem.W.Frag) (d : PyData) : TE := fun σ H Q => ∀ v H', Ex H H' → Dp K H' v d → Q v H'
def tLits (K : PySem.W.Frag) (ds : List PyData) : TA := fun σ H Q => ∀ vs H', Ex H H' → DpAll K H' vs ds → Q vs H'
section
variable {X : Cx} {e : Expr} {es : List Expr} {d : PyData} {ds : List PyData} {pos : Pos}
theorem pl_int {i : Int} {j : Nat} : PE X (.Constant (.int i) j pos) (tLit X.K (.int i)) := pe_weak pe_int fun σ H Q q => q _ H (Evl.Ex.refl H) (.int i)
theorem pl_bl {b : Bool} {j : Nat} : PE X (.Constant (.bool b) j pos) (tLit X.K (.bool b)) := pe_weak pe_bl fun σ H Q q => q _ H (Evl.Ex.refl H) (.bl b)
theorem pl_non {j : Nat} : PE X (.Constant .none j pos) (tLit X.K .none) := pe_weak pe_non fun σ H Q q => q _ H (Evl.Ex.refl H) .non
theorem pl_str {x : Str} {j : Nat} : PE X (.Constant (.str x) j pos) (tLit X.K (.str x)) := pe_weak pe_str fun σ H Q q => q _ H (Evl.Ex.refl H) (.str x)
theorem pl_neg {i : Int} {j : Nat} {p2 : Pos} : PE X (.UnaryOp .USub (.Constant (.int i) j p2) pos) (tLit X.K (.int (-i))) := pe_weak (pe_un un_neg pe_int) fun σ H Q q => ⟨_, rfl, q _ H (Evl.Ex.refl H) (.int _)⟩
theorem pl_nil : PA X [] (tLits X.K []) := ⟨fun pos pins s σ H Q I q => pa_nil.run pos pins s σ H Q I (q [] H (Evl.Ex.refl H) .nil)⟩
theorem pl_cons (he : PE X e (tLit X.K d)) (hr : PA X es (tLits X.K ds)) (hn : starEach (e :: es) X.env = (false, eval e X.env) :: starEach es X.env := by rfl) : PA X (e :: es) (tLits X.K (d :: ds)) :=
  ⟨fun pos pins s σ H Q I q => (pa_cons he hr hn).run pos pins s σ H Q I fun v H1 e1 d1 => fun vs H2 e2 d2 => q (v :: vs) H2 (e1.trans e2) (.cons (dpEx e2 d1) d2)⟩
theorem pl_lst (h : PA X es (tLits X.K ds)) (hz : ds.length ≤ 1000) : PE X (.List es pos) (tLit X.K (.list ds)) := pe_weak (pe_lstG h) fun σ H Q q => fun vs H1 e1 d1 => ⟨by
  rw [dpAll_len d1]
  exact Nat.le_trans hz (by decide), fun p H2 n2 e2 h2 => q _ H2 (e1.trans e2) (.lst (sqI h2) (dpAllEx e2 d1))⟩
theorem pl_tup {x1 : Nat} (h : PA X es (tLits X.K ds)) (hz : ds.length ≤ 1000) : PE X (.Tuple es x1 pos) (tLit X.K (.tuple ds)) := pe_weak (pe_tupG h) fun σ H Q q => fun vs H1 e1 d1 => ⟨by
  rw [dpAll_len d1]
  exact Nat.le_trans hz (by decide), fun p H2 n2 e2 h2 => q _ H2 (e1.trans e2) (.tup (sqT h2) (dpAllEx e2 d1))⟩
end
end My
set_option Elab.async false
set_option linter.all false
set_option maxRecDepth 100000
set_option maxHeartbeats 4000000
/-! comprehensions of two clauses -/
namespace My
open PySem PySem.Spec PyProof.Rows L2
/-- the inner clause, of which Nx holds behind -/
def Inn (D : Addr) (g1 : TG) (tt1 : TT) (te : TE) (σ2 : L2.St) (vs1 : List Nat) (J1 : It) (H4 : Hp) (Nx : Hp → Prop) : Prop := ∃ W1 : Nat → Nat → Hp → Prop, (∃ m, W1 0 m H4) ∧ ∀ j k H, W1 j k H →
  (J1.stop j H ∧ Nx H) ∨ (J1.go j H ∧ ∃ Nx1 : Hp → Prop, (∀ H', Nx1 H' → ∃ k', k' < k ∧ W1 (j + 1) k' H') ∧ ∀ x H', J1.yld j H x H' → g1 x (wipe σ2 vs1) H' fun σ3 H5 => wipe σ3 vs1 = wipe σ2 vs1 ∧ tt1 σ3 H5 fun b H6 =>
    if b = true then te σ3 H6 fun y H7 => ∃ acc, H7 D = some (.lst acc) ∧ acc.length < sizeLine ∧ Nx1 (upd H7 D (.lst (acc ++ [y]))) else Nx1 H6)
theorem lc2_in {J1 : It} {n1 : Nat} {G1 : Hp → Prop} {Y1 : Nat → Hp → V → Hp → Prop} (w : Walk J1 n1 G1 Y1) {D : Addr} {g1 : TG} {tt1 : TT} {te : TE} {σ2 : L2.St} {vs1 : List Nat} {H4 : Hp} {Nx : Hp → Prop} (Pv : Nat → Hp → Prop) (h0 : Pv 0 H4) (hG : ∀ i H, i ≤ n1 → Pv i H → G1 H)
    (hs : ∀ i x H H', i < n1 → Pv i H → Y1 i H x H' → g1 x (wipe σ2 vs1) H' fun σ3 H5 => wipe σ3 vs1 = wipe σ2 vs1 ∧ tt1 σ3 H5 fun b H6 =>
      if b = true then te σ3 H6 fun y H7 => ∃ acc, H7 D = some (.lst acc) ∧ acc.length < sizeLine ∧ Pv (i + 1) (upd H7 D (.lst (acc ++ [y]))) else Pv (i + 1) H6) (hd : ∀ H, Pv n1 H → Nx H) : Inn D g1 tt1 te σ2 vs1 J1 H4 Nx := by
  refine ⟨fun i m H => m = n1 - i ∧ i ≤ n1 ∧ Pv i H, ⟨n1, by simp, Nat.zero_le _, h0⟩, ?_⟩
  rintro i m H ⟨rfl, hi, p⟩
  have q := hG i H hi p
  by_cases hlt : i < n1
  · exact .inr ⟨w.goes i H hlt q, Pv (i + 1), fun H' p' => ⟨n1 - (i + 1), by omega, rfl, hlt, p'⟩, fun x H' y => hs i x H H' hlt p (w.yields i H x H' hlt q y)⟩
  · have e : i = n1 := by omega
    subst e
    exact .inl ⟨w.stops H q, hd H p⟩
theorem lc2_out {J : It} {n : Nat} {G : Hp → Prop} {Y : Nat → Hp → V → Hp → Prop} (w : Walk J n G Y) {g : TG} {tt : TT} {wi1 : TI} {g1 : TG} {tt1 : TT} {te : TE} {vs vs1 : List Nat} {σ : L2.St} {H1 : Hp} {D : Addr} {Qd : Hp → Prop} (Pv : Nat → Hp → Prop) (h0 : Pv 0 (upd H1 D (.lst []))) (hG : ∀ i H, i ≤ n → Pv i H → G H)
    (hs : ∀ i x H H', i < n → Pv i H → Y i H x H' → g x (wipe σ vs) H' fun σ2 H2 => wipe σ2 vs = wipe σ vs ∧ tt σ2 H2 fun b H3 =>
      if b = true then wi1 σ2 H3 fun J1 H4 => Inn D g1 tt1 te σ2 vs1 J1 H4 (Pv (i + 1)) else Pv (i + 1) H3) (hd : ∀ H, Pv n H → Qd H) :
    ∃ W : Nat → Nat → Hp → Prop, (∃ m, W 0 m (upd H1 D (.lst []))) ∧ ∀ i m H, W i m H →
      (J.stop i H ∧ Qd H) ∨ (J.go i H ∧ ∃ Nx : Hp → Prop, (∀ H', Nx H' → ∃ m', m' < m ∧ W (i + 1) m' H') ∧ ∀ x H', J.yld i H x H' → g x (wipe σ vs) H' fun σ2 H2 => wipe σ2 vs = wipe σ vs ∧ tt σ2 H2 fun b H3 =>
        if b = true then wi1 σ2 H3 fun J1 H4 => Inn D g1 tt1 te σ2 vs1 J1 H4 Nx else Nx H3) := by
  refine ⟨fun i m H => m = n - i ∧ i ≤ n ∧ Pv i H, ⟨n, by simp, Nat.zero_le _, h0⟩, ?_⟩
  rintro i m H ⟨rfl, hi, p⟩
  have q := hG i H hi p
  by_cases hlt : i < n
  · exact .inr ⟨w.goes i H hlt q, Pv (i + 1), fun H' p' => ⟨n - (i + 1), by omega, rfl, hlt, p'⟩, fun x H' y => hs i x H H' hlt p (w.yields i H x H' hlt q y)⟩
  · have e : i = n := by omega
    subst e
    exact .inl ⟨w.stops H q, hd H p⟩
end My
set_option Elab.async false
set_option linter.all false
set_option maxRecDepth 100000
set_option maxHeartbeats 4000000
/-! Tables in the heap. -/
namespace My
open PySem L2
/-- the i-th of vs is an object of the i-th of rows -/
def AllAt (o : List V → HO) (H : Hp) (vs : List V) (rows : List (List Int)) : Prop := vs.length = rows.length ∧ ∀ (i : Nat) v r, vs[i]? = some v → rows[i]? = some r → ∃ q, v = .ref q ∧ H q = some (o (r.map V.int))
theorem AllAt.ex {o : List V → HO} {H H' : Hp} {vs : List V} {rows : List (List Int)} (h : AllAt o H vs rows) (e : Ex H H') : AllAt o H' vs rows := ⟨h.1, fun i v r h1 h2 => let ⟨q, a, b⟩ := h.2 i v r h1 h2; ⟨q, a, e _ _ b⟩⟩
theorem AllAt.get {o : List V → HO} {H : Hp} {vs : List V} {rows : List (List Int)} (h : AllAt o H vs rows) {i : Nat} {v : V} (hi : vs[i]? = some v) : ∃ r q, rows[i]? = some r ∧ v = .ref q ∧ H q = some (o (r.map V.int)) := by
  have hlt : i < vs.length := (List.getElem?_eq_some_iff.mp hi).1
  have hr : rows[i]? = some (rows[i]'(by rw [← h.1]; exact hlt)) := List.getElem?_eq_getElem _
  obtain ⟨q, a, b⟩ := h.2 i v _ hi hr
  exact ⟨_, q, hr, a, b⟩
theorem AllAt.nil {o : List V → HO} {H : Hp} : AllAt o H [] [] := ⟨rfl, fun i v r h => (by cases h)⟩
theorem AllAt.snoc {o : List V → HO} {H : Hp} {vs : List V} {rows : List (List Int)} (h : AllAt o H vs rows) {q : Addr} {r : List Int} (hq : H q = some (o (r.map V.int))) : AllAt o H (vs ++ [.ref q]) (rows ++ [r]) := by
  refine ⟨by simp [h.1], fun i v d h1 h2 => ?_⟩
  by_cases z : i < vs.length
  · rw [List.getElem?_append_left z] at h1
    rw [List.getElem?_append_left (by rw [← h.1]; exact z)] at h2
    exact h.2 i v d h1 h2
  · rw [List.getElem?_append_right (by omega)] at h1
    rw [List.getElem?_append_right (by rw [← h.1]; omega), ← h.1] at h2
    cases q : i - vs.length with
    | zero =>
      rw [q] at h1 h2
      cases h1
      cases h2
      exact ⟨_, rfl, hq⟩
    | succ n =>
      rw [q] at h1
      cases h1
/-- lists or tuples of ints -/
def CellsAt (H : Hp) (vs : List V) (rows : List (List Int)) : Prop := vs.length = rows.length ∧ ∀ (i : Nat) v r, vs[i]? = some v → rows[i]? = some r → ∃ q, v = .ref q ∧ (H q = some (.lst (r.map V.int)) ∨ H q = some (.tup (r.map V.int)))
theorem AllAt.lst {H : Hp} {vs : List V} {rows : List (List Int)} (h : AllAt .lst H vs rows) : CellsAt H vs rows := ⟨h.1, fun i v r h1 h2 => let ⟨q, a, b⟩ := h.2 i v r h1 h2; ⟨q, a, .inl b⟩⟩
theorem AllAt.tup {H : Hp} {vs : List V} {rows : List (List Int)} (h : AllAt .tup H vs rows) : CellsAt H vs rows := ⟨h.1, fun i v r h1 h2 => let ⟨q, a, b⟩ := h.2 i v r h1 h2; ⟨q, a, .inr b⟩⟩
theorem CellsAt.ex {H H' : Hp} {vs : List V} {rows : List (List Int)} (h : CellsAt H vs rows) (e : Ex H H') : CellsAt H' vs rows := ⟨h.1, fun i v r h1 h2 => let ⟨q, a, b⟩ := h.2 i v r h1 h2; ⟨q, a, b.imp (e _ _) (e _ _)⟩⟩
theorem CellsAt.get {H : Hp} {vs : List V} {rows : List (List Int)} (h : CellsAt H vs rows) {i : Nat} {v : V} (hi : vs[i]? = some v) : ∃ r q, rows[i]? = some r ∧ v = .ref q ∧ (H q = some (.lst (r.map V.int)) ∨ H q = some (.tup (r.map V.int))) := by
  have hlt : i < vs.length := (List.getElem?_eq_some_iff.mp hi).1
  have hr : rows[i]? = some (rows[i]'(by rw [← h.1]; exact hlt)) := List.getElem?_eq_getElem _
  obtain ⟨q, a, b⟩ := h.2 i v _ hi hr
  exact ⟨_, q, hr, a, b⟩
/-! the fields of a table -/
theorem cw_ : ¬ (("cell_rows" : Str) = "wide") := by decide +kernel
theorem wc_ : ¬ (("wide" : Str) = "cell_rows") := by decide +kernel
def tf (w : Nat) (cr : Addr) : List (Str × V) := putF "cell_rows" (.ref cr) (putF "wide" (.int (w : Nat)) [])
theorem tf_wide (w : Nat) (cr : Addr) : (tf w cr).lookup ("wide" : Str) = some (.int (w : Nat)) := by
  unfold tf
  rw [lookup_putF, if_neg wc_, lookup_putF, if_pos rfl]
theorem tf_rows (w : Nat) (cr : Addr) : (tf w cr).lookup ("cell_rows" : Str) = some (.ref cr) := by
  unfold tf
  rw [lookup_putF, if_pos rfl]
theorem tf_no (w : Nat) (cr : Addr) {m : Str} (h1 : ¬ m = "cell_rows") (h2 : ¬ m = "wide") : (tf w cr).lookup m = none := by
  unfold tf
  rw [lookup_putF, if_neg h1, lookup_putF, if_neg h2]
  rfl
/-- a table stands at t -/
def Tab (C : Addr) (H : Hp) (t : Addr) (w : Nat) (rows : List (List Int)) : Prop := ∃ dx cr rs, H t = some (.ins C dx (tf w cr)) ∧ H cr = some (.tup rs) ∧ AllAt .tup H rs rows ∧ (∀ r ∈ rows, r.length = w) ∧ 1 ≤ w
theorem Tab.ex {C : Addr} {H H' : Hp} {t : Addr} {w : Nat} {rows : List (List Int)} (h : Tab C H t w rows) (e : Ex H H') : Tab C H' t w rows :=
  let ⟨dx, cr, rs, a, b, c, d⟩ := h; ⟨dx, cr, rs, e _ _ a, e _ _ b, c.ex e, d⟩
/-- the deck changed, nothing else -/
theorem Tab.exj {C j : Addr} {H H' : Hp} {t : Addr} {w : Nat} {rows : List (List Int)} {ys : List V} (h : Tab C H t w rows) (e : Exj j H H') (hj : H j = some (.lst ys)) : Tab C H' t w rows := by
  obtain ⟨dx, cr, rs, a, b, c, d⟩ := h
  have ne : ∀ {x o}, H x = some o → o ≠ .lst ys → x ≠ j := fun {x o} hx ho z => by
    rw [z, hj] at hx
    exact ho (Option.some.inj hx).symm
  refine ⟨dx, cr, rs, e _ _ (ne a (fun z => by cases z)) a, e _ _ (ne b (fun z => by cases z)) b, ⟨c.1, fun i v r h1 h2 => ?_⟩, d⟩
  obtain ⟨q, e1, e2⟩ := c.2 i v r h1 h2
  exact ⟨q, e1, e _ _ (ne e2 (fun z => by cases z)) e2⟩
/-- what pe_make asks, from what a table's maker is asked for -/
theorem mkTab {C : Addr} {H : Hp} {sp : Sp} {vs : List V} {E : XK} {Q : VK} {w : Nat} {rows : List (List Int)}
    (h : ∀ x dx H0, H x = none → Ex H H0 → H0 x = some (.ins C dx []) → (∀ H', Exj x H0 H' → Tab C H' x w rows → Q (.ref x) H') → sp (.ref x :: vs) H0 (fun v H2 => v = .non ∧ Q (.ref x) H2) E)
    (k : ∀ x H', H x = none → Ex H H' → Tab C H' x w rows → Q (.ref x) H') :
    ∀ x dx, H x = none → H dx = none → dx ≠ x → sp (.ref x :: vs) (upd (upd H dx (.own x)) x (.ins C dx [])) (fun v H2 => v = .non ∧ Q (.ref x) H2) E := by
  intro x dx hx hdx ne
  have e : Ex H (upd (upd H dx (.own x)) x (.ins C dx [])) := fun b o hb => by
    rw [upd_ne (ne_of_none hb hx), upd_ne (ne_of_none hb hdx)]
    exact hb
  exact h x dx _ hx e upd_same fun H' e' t => k x H' hx (fun b o hb => e' b o (ne_of_none hb hx) (e b o hb)) t
end My
set_option Elab.async false
set_option linter.all false
set_option maxRecDepth 100000
set_option maxHeartbeats 4000000
namespace K13
open PySem L2 My
def topS (i : Nat) : Stmt := PySem.Challenge.pw_listwindow_k13_orders_barred_by_spots.main.body.getD i (.Pass ⟨0, 0, 0, 0⟩)
abbrev PR : Program := PySem.Challenge.pw_listwindow_k13_orders_barred_by_spots
abbrev s_init : Stmt := inClass (topS 2) 0
abbrev s_need_column : Stmt := topS 8
theorem sc_need_column : FnScope ["width", "column"] ["width", "column"] (defScope s_need_column) := ⟨rfl, rfl, rfl, by decide +kernel, rfl, by decide +kernel, by decide +kernel⟩
abbrev s_need_order : Stmt := topS 9
theorem sc_need_order : FnScope ["number", "order"] ["number", "order"] (defScope s_need_order) := ⟨rfl, rfl, rfl, by decide +kernel, rfl, by decide +kernel, by decide +kernel⟩
abbrev s_usable : Stmt := topS 12
theorem sc_usable : FnScope ["table", "order"] ["table", "order"] (defScope s_usable) := ⟨rfl, rfl, rfl, by decide +kernel, rfl, by decide +kernel, by decide +kernel⟩
abbrev s_barring : Stmt := topS 13
theorem sc_barring : FnScope ["table", "order", "spots", "left", "spot"] ["table", "order"] (defScope s_barring) := ⟨rfl, rfl, rfl, by decide +kernel, rfl, by decide +kernel, by decide +kernel⟩
abbrev s_judge_barring : Stmt := topS 14
theorem sc_judge_barring : FnScope ["table", "order", "spots", "own", "spot"] ["table", "order", "spots"] (defScope s_judge_barring) := ⟨rfl, rfl, rfl, by decide +kernel, rfl, by decide +kernel, by decide +kernel⟩
abbrev s_parts_of : Stmt := topS 15
theorem sc_parts_of : FnScope ["items", "found", "item", "part"] ["items"] (defScope s_parts_of) := ⟨rfl, rfl, rfl, by decide +kernel, rfl, by decide +kernel, by decide +kernel⟩
abbrev s_least_barring : Stmt := topS 16
theorem sc_least_barring : FnScope ["table", "order", "spots", "part"] ["table", "order"] (defScope s_least_barring) := ⟨rfl, rfl, rfl, by decide +kernel, rfl, by decide +kernel, by decide +kernel⟩
abbrev s__law_open : Stmt := topS 20
theorem sc__law_open : FnScope ["_law_script", "_law_k", "_law_cell", "_law_seed"] ["_law_script", "_law_k"] (defScope s__law_open) := ⟨rfl, rfl, rfl, by decide +kernel, rfl, by decide +kernel, by decide +kernel⟩
abbrev s__law_draw : Stmt := topS 21
theorem sc__law_draw : FnScope ["_law_deck", "_law_many", "_law_taken", "_law_stir"] ["_law_deck", "_law_many"] (defScope s__law_draw) := ⟨rfl, rfl, rfl, by decide +kernel, rfl, by decide +kernel, by decide +kernel⟩
abbrev s__law_rows : Stmt := topS 22
theorem sc__law_rows : FnScope ["_law_deck", "_law_width", "_law_most", "_law_span", "_law_scale", "_law_found", "_law_turn", "_law_cells", "_law_column"] ["_law_deck", "_law_width", "_law_most"] (defScope s__law_rows) := ⟨rfl, rfl, rfl, by decide +kernel, rfl, by decide +kernel, by decide +kernel⟩
abbrev s__law_keys : Stmt := topS 23
theorem sc__law_keys : FnScope ["_law_deck", "_law_width", "_law_left", "_law_found", "_law_turn"] ["_law_deck", "_law_width"] (defScope s__law_keys) := ⟨rfl, rfl, rfl, by decide +kernel, rfl, by decide +kernel, by decide +kernel⟩
abbrev s__law_every : Stmt := topS 24
theorem sc__law_every : FnScope ["_law_width", "_law_found", "_law_layer", "_law_turn", "_law_longer", "_law_keys_here", "_law_used", "_law_column", "_law_sign", "_law_one"] ["_law_width"] (defScope s__law_every) := ⟨rfl, rfl, rfl, by decide +kernel, rfl, by decide +kernel, by decide +kernel⟩
abbrev s__law_order : Stmt := topS 25
theorem sc__law_order : FnScope ["_law_rows_here", "_law_keys_here", "_law_order_here", "_law_column", "_law_sign"] ["_law_rows_here", "_law_keys_here"] (defScope s__law_order) := ⟨rfl, rfl, rfl, by decide +kernel, rfl, by decide +kernel, by decide +kernel⟩
abbrev s__law_says : Stmt := topS 26
theorem sc__law_says : FnScope ["_law_found", "_law_due"] ["_law_found", "_law_due"] (defScope s__law_says) := ⟨rfl, rfl, rfl, by decide +kernel, rfl, by decide +kernel, by decide +kernel⟩
abbrev s__law_step : Stmt := topS 27
theorem sc__law_step : FnScope ["_law_rows_here", "_law_order_here", "_law_column", "_law_spot"] ["_law_rows_here", "_law_order_here", "_law_column", "_law_spot"] (defScope s__law_step) := ⟨rfl, rfl, rfl, by decide +kernel, rfl, by decide +kernel, by decide +kernel⟩
abbrev s__law_mixed : Stmt := topS 28
theorem sc__law_mixed : FnScope ["_law_rows_here", "_law_order_here", "_law_column", "_law_spots", "_law_steps", "_law_spot", "_law_step_here"] ["_law_rows_here", "_law_order_here", "_law_column", "_law_spots"] (defScope s__law_mixed) := ⟨rfl, rfl, rfl, by decide +kernel, rfl, by decide +kernel, by decide +kernel⟩
abbrev s__law_bars : Stmt := topS 29
theorem sc__law_bars : FnScope ["_law_rows_here", "_law_order_here", "_law_width", "_law_spots", "_law_column", "_law_tied", "_law_spot"] ["_law_rows_here", "_law_order_here", "_law_width", "_law_spots"] (defScope s__law_bars) := ⟨rfl, rfl, rfl, by decide +kernel, rfl, by decide +kernel, by decide +kernel⟩
abbrev s__law_chosen : Stmt := topS 30
theorem sc__law_chosen : FnScope ["_law_deck", "_law_rows_here", "_law_order_here", "_law_width", "_law_found", "_law_left", "_law_turn", "_law_some", "_law_column", "_law_one", "_law_spot"] ["_law_deck", "_law_rows_here", "_law_order_here", "_law_width"] (defScope s__law_chosen) := ⟨rfl, rfl, rfl, by decide +kernel, rfl, by decide +kernel, by decide +kernel⟩
abbrev s__law_parts : Stmt := topS 31
theorem sc__law_parts : FnScope ["_law_many", "_law_found", "_law_spot", "_law_part"] ["_law_many"] (defScope s__law_parts) := ⟨rfl, rfl, rfl, by decide +kernel, rfl, by decide +kernel, by decide +kernel⟩
abbrev s__law_drawn : Stmt := topS 32
theorem sc__law_drawn : FnScope ["_law_deck", "_law_rows_here", "_law_width", "_law_order_here", "_law_turn", "_law_one", "_law_other"] ["_law_deck", "_law_rows_here", "_law_width"] (defScope s__law_drawn) := ⟨rfl, rfl, rfl, by decide +kernel, rfl, by decide +kernel, by decide +kernel⟩
abbrev s__law_lists_right : Stmt := topS 33
theorem sc__law_lists_right : FnScope ["_law_deck", "_law_table", "_law_rows_here", "_law_order_here", "_law_width", "_law_left", "_law_many", "_law_some", "_law_spots", "_law_due", "_law_turn", "_law_spot"] ["_law_deck", "_law_table", "_law_rows_here", "_law_order_here", "_law_width", "_law_left"] (defScope s__law_lists_right) := ⟨rfl, rfl, rfl, by decide +kernel, rfl, by decide +kernel, by decide +kernel⟩
abbrev s__law_least_right : Stmt := topS 34
theorem sc__law_least_right : FnScope ["_law_table", "_law_rows_here", "_law_order_here", "_law_width", "_law_due", "_law_spots"] ["_law_table", "_law_rows_here", "_law_order_here", "_law_width"] (defScope s__law_least_right) := ⟨rfl, rfl, rfl, by decide +kernel, rfl, by decide +kernel, by decide +kernel⟩
abbrev s__law_right : Stmt := topS 35
theorem sc__law_right : FnScope ["_law_deck", "_law_width", "_law_rows_here", "_law_table", "_law_turn", "_law_order_here", "_law_kept", "_law_found", "_law_left", "_law_due", "_law_told", "_law_spot", "_law_keys_here"] ["_law_deck"] (defScope s__law_right) := ⟨rfl, rfl, rfl, by decide +kernel, rfl, by decide +kernel, by decide +kernel⟩
abbrev s__law_new_right : Stmt := topS 36
theorem sc__law_new_right : FnScope ["_law_table", "_law_order_here", "_law_found", "_law_kept", "_law_one", "_law_later"] ["_law_table", "_law_order_here"] (defScope s__law_new_right) := ⟨rfl, rfl, rfl, by decide +kernel, rfl, by decide +kernel, by decide +kernel⟩
abbrev s_law : Stmt := topS 37
theorem sc_law : FnScope ["_law_script", "_law_k"] ["_law_script"] (defScope s_law) := ⟨rfl, rfl, rfl, by decide +kernel, rfl, by decide +kernel, by decide +kernel⟩
abbrev s_Spots___init__ : Stmt := inClass (topS 11) 0
theorem sc_Spots___init__ : FnScope ["self", "table", "order", "pairs", "columns", "at", "column", "own", "row", "later"] ["self", "table", "order"] (defScope s_Spots___init__) := ⟨rfl, rfl, rfl, by decide +kernel, rfl, by decide +kernel, by decide +kernel⟩
abbrev s_Spots_is_mixed : Stmt := inClass (topS 11) 1
theorem sc_Spots_is_mixed : FnScope ["self", "column", "spots", "steps", "spot", "step"] ["self", "column", "spots"] (defScope s_Spots_is_mixed) := ⟨rfl, rfl, rfl, by decide +kernel, rfl, by decide +kernel, by decide +kernel⟩
abbrev s_Spots_is_tied : Stmt := inClass (topS 11) 2
theorem sc_Spots_is_tied : FnScope ["self", "column", "spots", "spot"] ["self", "column", "spots"] (defScope s_Spots_is_tied) := ⟨rfl, rfl, rfl, by decide +kernel, rfl, by decide +kernel, by decide +kernel⟩
abbrev s_Spots_bars : Stmt := inClass (topS 11) 3
theorem sc_Spots_bars : FnScope ["self", "spots", "spot", "column"] ["self", "spots"] (defScope s_Spots_bars) := ⟨rfl, rfl, rfl, by decide +kernel, rfl, by decide +kernel, by decide +kernel⟩
abbrev s_Spots_settled : Stmt := inClass (topS 11) 4
theorem sc_Spots_settled : FnScope ["self", "found", "left", "turn", "column", "spot"] ["self"] (defScope s_Spots_settled) := ⟨rfl, rfl, rfl, by decide +kernel, rfl, by decide +kernel, by decide +kernel⟩
abbrev s_Table___init__ : Stmt := inClass (topS 18) 0
theorem sc_Table___init__ : FnScope ["self", "width", "rows", "index", "cells"] ["self", "width", "rows"] (defScope s_Table___init__) := ⟨rfl, rfl, rfl, by decide +kernel, rfl, by decide +kernel, by decide +kernel⟩
abbrev s_Table_width : Stmt := inClass (topS 18) 1
theorem sc_Table_width : FnScope ["self"] ["self"] (defScope s_Table_width) := ⟨rfl, rfl, rfl, by decide +kernel, rfl, by decide +kernel, by decide +kernel⟩
abbrev s_Table_column : Stmt := inClass (topS 18) 4
theorem sc_Table_column : FnScope ["self", "column", "cells"] ["self", "column"] (defScope s_Table_column) := ⟨rfl, rfl, rfl, by decide +kernel, rfl, by decide +kernel, by decide +kernel⟩
abbrev s_Table___len__ : Stmt := inClass (topS 18) 10
theorem sc_Table___len__ : FnScope ["self"] ["self"] (defScope s_Table___len__) := ⟨rfl, rfl, rfl, by decide +kernel, rfl, by decide +kernel, by decide +kernel⟩
structure Txt (K : PySem.W.Frag) (mg : Str → Option Value) where
  a_need_column : Addr
  d_need_column : FuncData
  f_need_column : Fun K "need_column" "need_column" s_need_column a_need_column d_need_column
  g_need_column : mg "need_column" = some (.ref a_need_column)
  a_need_order : Addr
  d_need_order : FuncData
  f_need_order : Fun K "need_order" "need_order" s_need_order a_need_order d_need_order
  g_need_order : mg "need_order" = some (.ref a_need_order)
  a_usable : Addr
  d_usable : FuncData
  f_usable : Fun K "usable" "usable" s_usable a_usable d_usable
  g_usable : mg "usable" = some (.ref a_usable)
  a_barring : Addr
  d_barring : FuncData
  f_barring : Fun K "barring" "barring" s_barring a_barring d_barring
  g_barring : mg "barring" = some (.ref a_barring)
  a_judge_barring : Addr
  d_judge_barring : FuncData
  f_judge_barring : Fun K "judge_barring" "judge_barring" s_judge_barring a_judge_barring d_judge_barring
  g_judge_barring : mg "judge_barring" = some (.ref a_judge_barring)
  a_parts_of : Addr
  d_parts_of : FuncData
  cc_parts_of : Addr
  cp_parts_of : Addr
  f_parts_of : FunL K "parts_of" "parts_of" s_parts_of a_parts_of d_parts_of cc_parts_of
  g_parts_of : mg "parts_of" = some (.ref a_parts_of)
  a_least_barring : Addr
  d_least_barring : FuncData
  f_least_barring : Fun K "least_barring" "least_barring" s_least_barring a_least_barring d_least_barring
  g_least_barring : mg "least_barring" = some (.ref a_least_barring)
  a__law_open : Addr
  d__law_open : FuncData
  f__law_open : Fun K "_law_open" "_law_open" s__law_open a__law_open d__law_open
  g__law_open : mg "_law_open" = some (.ref a__law_open)
  a__law_draw : Addr
  d__law_draw : FuncData
  f__law_draw : Fun K "_law_draw" "_law_draw" s__law_draw a__law_draw d__law_draw
  g__law_draw : mg "_law_draw" = some (.ref a__law_draw)
  a__law_rows : Addr
  d__law_rows : FuncData
  f__law_rows : Fun K "_law_rows" "_law_rows" s__law_rows a__law_rows d__law_rows
  g__law_rows : mg "_law_rows" = some (.ref a__law_rows)
  a__law_keys : Addr
  d__law_keys : FuncData
  f__law_keys : Fun K "_law_keys" "_law_keys" s__law_keys a__law_keys d__law_keys
  g__law_keys : mg "_law_keys" = some (.ref a__law_keys)
  a__law_every : Addr
  d__law_every : FuncData
  f__law_every : Fun K "_law_every" "_law_every" s__law_every a__law_every d__law_every
  g__law_every : mg "_law_every" = some (.ref a__law_every)
  a__law_order : Addr
  d__law_order : FuncData
  cc__law_order : Addr
  cp__law_order : Addr
  f__law_order : FunL K "_law_order" "_law_order" s__law_order a__law_order d__law_order cc__law_order
  g__law_order : mg "_law_order" = some (.ref a__law_order)
  a__law_says : Addr
  d__law_says : FuncData
  f__law_says : Fun K "_law_says" "_law_says" s__law_says a__law_says d__law_says
  g__law_says : mg "_law_says" = some (.ref a__law_says)
  a__law_step : Addr
  d__law_step : FuncData
  f__law_step : Fun K "_law_step" "_law_step" s__law_step a__law_step d__law_step
  g__law_step : mg "_law_step" = some (.ref a__law_step)
  a__law_mixed : Addr
  d__law_mixed : FuncData
  f__law_mixed : Fun K "_law_mixed" "_law_mixed" s__law_mixed a__law_mixed d__law_mixed
  g__law_mixed : mg "_law_mixed" = some (.ref a__law_mixed)
  a__law_bars : Addr
  d__law_bars : FuncData
  f__law_bars : Fun K "_law_bars" "_law_bars" s__law_bars a__law_bars d__law_bars
  g__law_bars : mg "_law_bars" = some (.ref a__law_bars)
  a__law_chosen : Addr
  d__law_chosen : FuncData
  f__law_chosen : Fun K "_law_chosen" "_law_chosen" s__law_chosen a__law_chosen d__law_chosen
  g__law_chosen : mg "_law_chosen" = some (.ref a__law_chosen)
  a__law_parts : Addr
  d__law_parts : FuncData
  cc__law_parts : Addr
  cp__law_parts : Addr
  f__law_parts : FunL K "_law_parts" "_law_parts" s__law_parts a__law_parts d__law_parts cc__law_parts
  g__law_parts : mg "_law_parts" = some (.ref a__law_parts)
  a__law_drawn : Addr
  d__law_drawn : FuncData
  f__law_drawn : Fun K "_law_drawn" "_law_drawn" s__law_drawn a__law_drawn d__law_drawn
  g__law_drawn : mg "_law_drawn" = some (.ref a__law_drawn)
  a__law_lists_right : Addr
  d__law_lists_right : FuncData
  f__law_lists_right : Fun K "_law_lists_right" "_law_lists_right" s__law_lists_right a__law_lists_right d__law_lists_right
  g__law_lists_right : mg "_law_lists_right" = some (.ref a__law_lists_right)
  a__law_least_right : Addr
  d__law_least_right : FuncData
  f__law_least_right : Fun K "_law_least_right" "_law_least_right" s__law_least_right a__law_least_right d__law_least_right
  g__law_least_right : mg "_law_least_right" = some (.ref a__law_least_right)
  a__law_right : Addr
  d__law_right : FuncData
  f__law_right : Fun K "_law_right" "_law_right" s__law_right a__law_right d__law_right
  g__law_right : mg "_law_right" = some (.ref a__law_right)
  a__law_new_right : Addr
  d__law_new_right : FuncData
  f__law_new_right : Fun K "_law_new_right" "_law_new_right" s__law_new_right a__law_new_right d__law_new_right
  g__law_new_right : mg "_law_new_right" = some (.ref a__law_new_right)
  a_law : Addr
  d_law : FuncData
  f_law : Fun K "law" "law" s_law a_law d_law
  g_law : mg "law" = some (.ref a_law)
  fI : Addr
  cI : Addr
  cdI : Addr
  dD : Addr
  dI : FuncData
  iT : InitT PR K mg s_init "WindowError.__init__" fI cI cdI dD dI
  c_WindowError : Addr
  e_WindowError : ErrC K fI dD c_WindowError
  g_WindowError : mg "WindowError" = some (.ref c_WindowError)
  c_InvalidNumber : Addr
  e_InvalidNumber : ErrC K fI dD c_InvalidNumber
  g_InvalidNumber : mg "InvalidNumber" = some (.ref c_InvalidNumber)
  c_InvalidRow : Addr
  e_InvalidRow : ErrC K fI dD c_InvalidRow
  g_InvalidRow : mg "InvalidRow" = some (.ref c_InvalidRow)
  c_InvalidColumn : Addr
  e_InvalidColumn : ErrC K fI dD c_InvalidColumn
  g_InvalidColumn : mg "InvalidColumn" = some (.ref c_InvalidColumn)
  c_InvalidOrder : Addr
  e_InvalidOrder : ErrC K fI dD c_InvalidOrder
  g_InvalidOrder : mg "InvalidOrder" = some (.ref c_InvalidOrder)
  c_Spots : Addr
  g_Spots : mg "Spots" = some (.ref c_Spots)
  cl_Spots : Cls K c_Spots
  na_Spots_size : NoAttr K c_Spots "size"
  na_Spots_steps : NoAttr K c_Spots "steps"
  na_Spots_descending : NoAttr K c_Spots "descending"
  a_Spots___init__ : Addr
  d_Spots___init__ : FuncData
  f_Spots___init__ : Fun K "__init__" "Spots.__init__" s_Spots___init__ a_Spots___init__ d_Spots___init__
  m_Spots___init__ : Meth K c_Spots "__init__" a_Spots___init__
  mk_Spots : Mk K c_Spots a_Spots___init__
  a_Spots_is_mixed : Addr
  d_Spots_is_mixed : FuncData
  f_Spots_is_mixed : Fun K "is_mixed" "Spots.is_mixed" s_Spots_is_mixed a_Spots_is_mixed d_Spots_is_mixed
  m_Spots_is_mixed : Meth K c_Spots "is_mixed" a_Spots_is_mixed
  a_Spots_is_tied : Addr
  d_Spots_is_tied : FuncData
  f_Spots_is_tied : Fun K "is_tied" "Spots.is_tied" s_Spots_is_tied a_Spots_is_tied d_Spots_is_tied
  m_Spots_is_tied : Meth K c_Spots "is_tied" a_Spots_is_tied
  a_Spots_bars : Addr
  d_Spots_bars : FuncData
  f_Spots_bars : Fun K "bars" "Spots.bars" s_Spots_bars a_Spots_bars d_Spots_bars
  m_Spots_bars : Meth K c_Spots "bars" a_Spots_bars
  a_Spots_settled : Addr
  d_Spots_settled : FuncData
  f_Spots_settled : Fun K "settled" "Spots.settled" s_Spots_settled a_Spots_settled d_Spots_settled
  m_Spots_settled : Meth K c_Spots "settled" a_Spots_settled
  c_Table : Addr
  g_Table : mg "Table" = some (.ref c_Table)
  cl_Table : Cls K c_Table
  na_Table_wide : NoAttr K c_Table "wide"
  na_Table_cell_rows : NoAttr K c_Table "cell_rows"
  a_Table___init__ : Addr
  d_Table___init__ : FuncData
  f_Table___init__ : Fun K "__init__" "Table.__init__" s_Table___init__ a_Table___init__ d_Table___init__
  m_Table___init__ : Meth K c_Table "__init__" a_Table___init__
  mk_Table : Mk K c_Table a_Table___init__
  a_Table_width : Addr
  d_Table_width : FuncData
  f_Table_width : Fun K "width" "Table.width" s_Table_width a_Table_width d_Table_width
  q_Table_width : Addr
  p_Table_width : PropOf K c_Table "width" q_Table_width a_Table_width
  a_Table_column : Addr
  d_Table_column : FuncData
  f_Table_column : Fun K "column" "Table.column" s_Table_column a_Table_column d_Table_column
  m_Table_column : Meth K c_Table "column" a_Table_column
  a_Table___len__ : Addr
  d_Table___len__ : FuncData
  f_Table___len__ : Fun K "__len__" "Table.__len__" s_Table___len__ a_Table___len__ d_Table___len__
  m_Table___len__ : Meth K c_Table "__len__" a_Table___len__
  z_sorted : mg "sorted" = none
  z_list : mg "list" = none
  z_range : mg "range" = none
  z_len : mg "len" = none
  z_any : mg "any" = none
  z_all : mg "all" = none
  z_max : mg "max" = none
  z_int : mg "int" = none
  z_abs : mg "abs" = none
  z_isinstance : mg "isinstance" = none
  z_bool : mg "bool" = none
  z_repr : mg "repr" = none
  z_min : mg "min" = none
  z_enumerate : mg "enumerate" = none
  z_tuple : mg "tuple" = none
  nP : [cp_parts_of, cp__law_order, cp__law_parts].Nodup
def Txt.tabs {K : PySem.W.Frag} {mg : Str → Option Value} (T : Txt K mg) : List (Addr × Str) := [(T.cp_parts_of, ("parts_of" : Str) ++ ".<locals>." ++ "<lambda>"), (T.cp__law_order, ("_law_order" : Str) ++ ".<locals>." ++ "<lambda>"), (T.cp__law_parts, ("_law_parts" : Str) ++ ".<locals>." ++ "<lambda>")]
def Txt.cs {K : PySem.W.Frag} {mg : Str → Option Value} (T : Txt K mg) : List (Addr × Addr) := [(T.cc_parts_of, T.cp_parts_of), (T.cc__law_order, T.cp__law_order), (T.cc__law_parts, T.cp__law_parts)]
abbrev Txt.Bs {K : PySem.W.Frag} {mg : Str → Option Value} (T : Txt K mg) (base : Heap) : Prop := ∀ p ∈ T.cs, LamX.TabB base mg p.1 p.2
theorem Txt.tb_parts_of {K : PySem.W.Frag} {mg : Str → Option Value} (T : Txt K mg) {base : Heap} (B : T.Bs base) : LamX.TabB base mg T.cc_parts_of T.cp_parts_of := B (T.cc_parts_of, T.cp_parts_of) (by simp [Txt.cs])
theorem Txt.tm_parts_of {K : PySem.W.Frag} {mg : Str → Option Value} (T : Txt K mg) : (T.cp_parts_of, ("parts_of" : Str) ++ ".<locals>." ++ "<lambda>") ∈ T.tabs := by simp [Txt.tabs]
theorem Txt.tu_parts_of {K : PySem.W.Frag} {mg : Str → Option Value} (T : Txt K mg) : ∀ q ∈ T.tabs, q.1 = T.cp_parts_of → q.2 = ("parts_of" : Str) ++ ".<locals>." ++ "<lambda>" := tabs_only T.nP (show List.map Prod.fst T.tabs = _ from rfl) T.tm_parts_of
theorem Txt.tb__law_order {K : PySem.W.Frag} {mg : Str → Option Value} (T : Txt K mg) {base : Heap} (B : T.Bs base) : LamX.TabB base mg T.cc__law_order T.cp__law_order := B (T.cc__law_order, T.cp__law_order) (by simp [Txt.cs])
theorem Txt.tm__law_order {K : PySem.W.Frag} {mg : Str → Option Value} (T : Txt K mg) : (T.cp__law_order, ("_law_order" : Str) ++ ".<locals>." ++ "<lambda>") ∈ T.tabs := by simp [Txt.tabs]
theorem Txt.tu__law_order {K : PySem.W.Frag} {mg : Str → Option Value} (T : Txt K mg) : ∀ q ∈ T.tabs, q.1 = T.cp__law_order → q.2 = ("_law_order" : Str) ++ ".<locals>." ++ "<lambda>" := tabs_only T.nP (show List.map Prod.fst T.tabs = _ from rfl) T.tm__law_order
theorem Txt.tb__law_parts {K : PySem.W.Frag} {mg : Str → Option Value} (T : Txt K mg) {base : Heap} (B : T.Bs base) : LamX.TabB base mg T.cc__law_parts T.cp__law_parts := B (T.cc__law_parts, T.cp__law_parts) (by simp [Txt.cs])
theorem Txt.tm__law_parts {K : PySem.W.Frag} {mg : Str → Option Value} (T : Txt K mg) : (T.cp__law_parts, ("_law_parts" : Str) ++ ".<locals>." ++ "<lambda>") ∈ T.tabs := by simp [Txt.tabs]
theorem Txt.tu__law_parts {K : PySem.W.Frag} {mg : Str → Option Value} (T : Txt K mg) : ∀ q ∈ T.tabs, q.1 = T.cp__law_parts → q.2 = ("_law_parts" : Str) ++ ".<locals>." ++ "<lambda>" := tabs_only T.nP (show List.map Prod.fst T.tabs = _ from rfl) T.tm__law_parts
theorem ok_init {w : World} {K : PySem.W.Frag} {mg : Str → Option Value} {base : Heap} (T : Txt K mg) : FnOk PR w K mg base CX0 1 T.fI T.dI ["self", "value"] (spErr K T.fI T.dD) := ok_err T.iT (NdefX.nscope_by (by decide +kernel)) rfl rfl rfl (fun env => rfl)
theorem b_init {K : PySem.W.Frag} {mg : Str → Option Value} (T : Txt K mg) : Binds K T.dI ["self", "value"] [] := by
  obtain ⟨oc, od, kV, doc, pm, an, ct, osl, e, lk⟩ := T.iT.ex
  rw [e]
  exact .all fun us hl => match us, hl with | [_, _], _ => rfl
theorem b_need_column {K : PySem.W.Frag} {mg : Str → Option Value} (T : Txt K mg) : Binds K T.d_need_column ["width", "column"] [] := T.f_need_column.binds (ps := ["width", "column"]) fun _ _ _ _ _ _ us hl => match us, hl with | [_, _], _ => rfl
theorem b_need_order {K : PySem.W.Frag} {mg : Str → Option Value} (T : Txt K mg) : Binds K T.d_need_order ["number", "order"] [] := T.f_need_order.binds (ps := ["number", "order"]) fun _ _ _ _ _ _ us hl => match us, hl with | [_, _], _ => rfl
theorem b_usable {K : PySem.W.Frag} {mg : Str → Option Value} (T : Txt K mg) : Binds K T.d_usable ["table", "order"] [] := T.f_usable.binds (ps := ["table", "order"]) fun _ _ _ _ _ _ us hl => match us, hl with | [_, _], _ => rfl
theorem b_barring {K : PySem.W.Frag} {mg : Str → Option Value} (T : Txt K mg) : Binds K T.d_barring ["table", "order"] [] := T.f_barring.binds (ps := ["table", "order"]) fun _ _ _ _ _ _ us hl => match us, hl with | [_, _], _ => rfl
theorem b_judge_barring {K : PySem.W.Frag} {mg : Str → Option Value} (T : Txt K mg) : Binds K T.d_judge_barring ["table", "order", "spots"] [] := T.f_judge_barring.binds (ps := ["table", "order", "spots"]) fun _ _ _ _ _ _ us hl => match us, hl with | [_, _, _], _ => rfl
theorem b_parts_of {K : PySem.W.Frag} {mg : Str → Option Value} (T : Txt K mg) : Binds K T.d_parts_of ["items"] [] := T.f_parts_of.toFun.binds (ps := ["items"]) fun _ _ _ _ _ _ us hl => match us, hl with | [_], _ => rfl
theorem b_least_barring {K : PySem.W.Frag} {mg : Str → Option Value} (T : Txt K mg) : Binds K T.d_least_barring ["table", "order"] [] := T.f_least_barring.binds (ps := ["table", "order"]) fun _ _ _ _ _ _ us hl => match us, hl with | [_, _], _ => rfl
theorem b__law_open {K : PySem.W.Frag} {mg : Str → Option Value} (T : Txt K mg) : Binds K T.d__law_open ["_law_script", "_law_k"] [] := T.f__law_open.binds (ps := ["_law_script", "_law_k"]) fun _ _ _ _ _ _ us hl => match us, hl with | [_, _], _ => rfl
theorem b__law_draw {K : PySem.W.Frag} {mg : Str → Option Value} (T : Txt K mg) : Binds K T.d__law_draw ["_law_deck", "_law_many"] [] := T.f__law_draw.binds (ps := ["_law_deck", "_law_many"]) fun _ _ _ _ _ _ us hl => match us, hl with | [_, _], _ => rfl
theorem b__law_rows {K : PySem.W.Frag} {mg : Str → Option Value} (T : Txt K mg) : Binds K T.d__law_rows ["_law_deck", "_law_width", "_law_most"] [] := T.f__law_rows.binds (ps := ["_law_deck", "_law_width", "_law_most"]) fun _ _ _ _ _ _ us hl => match us, hl with | [_, _, _], _ => rfl
theorem b__law_keys {K : PySem.W.Frag} {mg : Str → Option Value} (T : Txt K mg) : Binds K T.d__law_keys ["_law_deck", "_law_width"] [] := T.f__law_keys.binds (ps := ["_law_deck", "_law_width"]) fun _ _ _ _ _ _ us hl => match us, hl with | [_, _], _ => rfl
theorem b__law_every {K : PySem.W.Frag} {mg : Str → Option Value} (T : Txt K mg) : Binds K T.d__law_every ["_law_width"] [] := T.f__law_every.binds (ps := ["_law_width"]) fun _ _ _ _ _ _ us hl => match us, hl with | [_], _ => rfl
theorem b__law_order {K : PySem.W.Frag} {mg : Str → Option Value} (T : Txt K mg) : Binds K T.d__law_order ["_law_rows_here", "_law_keys_here"] [] := T.f__law_order.toFun.binds (ps := ["_law_rows_here", "_law_keys_here"]) fun _ _ _ _ _ _ us hl => match us, hl with | [_, _], _ => rfl
theorem b__law_says {K : PySem.W.Frag} {mg : Str → Option Value} (T : Txt K mg) : Binds K T.d__law_says ["_law_found", "_law_due"] [] := T.f__law_says.binds (ps := ["_law_found", "_law_due"]) fun _ _ _ _ _ _ us hl => match us, hl with | [_, _], _ => rfl
theorem b__law_step {K : PySem.W.Frag} {mg : Str → Option Value} (T : Txt K mg) : Binds K T.d__law_step ["_law_rows_here", "_law_order_here", "_law_column", "_law_spot"] [] := T.f__law_step.binds (ps := ["_law_rows_here", "_law_order_here", "_law_column", "_law_spot"]) fun _ _ _ _ _ _ us hl => match us, hl with | [_, _, _, _], _ => rfl
theorem b__law_mixed {K : PySem.W.Frag} {mg : Str → Option Value} (T : Txt K mg) : Binds K T.d__law_mixed ["_law_rows_here", "_law_order_here", "_law_column", "_law_spots"] [] := T.f__law_mixed.binds (ps := ["_law_rows_here", "_law_order_here", "_law_column", "_law_spots"]) fun _ _ _ _ _ _ us hl => match us, hl with | [_, _, _, _], _ => rfl
theorem b__law_bars {K : PySem.W.Frag} {mg : Str → Option Value} (T : Txt K mg) : Binds K T.d__law_bars ["_law_rows_here", "_law_order_here", "_law_width", "_law_spots"] [] := T.f__law_bars.binds (ps := ["_law_rows_here", "_law_order_here", "_law_width", "_law_spots"]) fun _ _ _ _ _ _ us hl => match us, hl with | [_, _, _, _], _ => rfl
theorem b__law_chosen {K : PySem.W.Frag} {mg : Str → Option Value} (T : Txt K mg) : Binds K T.d__law_chosen ["_law_deck", "_law_rows_here", "_law_order_here", "_law_width"] [] := T.f__law_chosen.binds (ps := ["_law_deck", "_law_rows_here", "_law_order_here", "_law_width"]) fun _ _ _ _ _ _ us hl => match us, hl with | [_, _, _, _], _ => rfl
theorem b__law_parts {K : PySem.W.Frag} {mg : Str → Option Value} (T : Txt K mg) : Binds K T.d__law_parts ["_law_many"] [] := T.f__law_parts.toFun.binds (ps := ["_law_many"]) fun _ _ _ _ _ _ us hl => match us, hl with | [_], _ => rfl
theorem b__law_drawn {K : PySem.W.Frag} {mg : Str → Option Value} (T : Txt K mg) : Binds K T.d__law_drawn ["_law_deck", "_law_rows_here", "_law_width"] [] := T.f__law_drawn.binds (ps := ["_law_deck", "_law_rows_here", "_law_width"]) fun _ _ _ _ _ _ us hl => match us, hl with | [_, _, _], _ => rfl
theorem b__law_lists_right {K : PySem.W.Frag} {mg : Str → Option Value} (T : Txt K mg) : Binds K T.d__law_lists_right ["_law_deck", "_law_table", "_law_rows_here", "_law_order_here", "_law_width", "_law_left"] [] := T.f__law_lists_right.binds (ps := ["_law_deck", "_law_table", "_law_rows_here", "_law_order_here", "_law_width", "_law_left"]) fun _ _ _ _ _ _ us hl => match us, hl with | [_, _, _, _, _, _], _ => rfl
theorem b__law_least_right {K : PySem.W.Frag} {mg : Str → Option Value} (T : Txt K mg) : Binds K T.d__law_least_right ["_law_table", "_law_rows_here", "_law_order_here", "_law_width"] [] := T.f__law_least_right.binds (ps := ["_law_table", "_law_rows_here", "_law_order_here", "_law_width"]) fun _ _ _ _ _ _ us hl => match us, hl with | [_, _, _, _], _ => rfl
theorem b__law_right {K : PySem.W.Frag} {mg : Str → Option Value} (T : Txt K mg) : Binds K T.d__law_right ["_law_deck"] [] := T.f__law_right.binds (ps := ["_law_deck"]) fun _ _ _ _ _ _ us hl => match us, hl with | [_], _ => rfl
theorem b__law_new_right {K : PySem.W.Frag} {mg : Str → Option Value} (T : Txt K mg) : Binds K T.d__law_new_right ["_law_table", "_law_order_here"] [] := T.f__law_new_right.binds (ps := ["_law_table", "_law_order_here"]) fun _ _ _ _ _ _ us hl => match us, hl with | [_, _], _ => rfl
theorem b_law {K : PySem.W.Frag} {mg : Str → Option Value} (T : Txt K mg) : Binds K T.d_law ["_law_script"] [] := T.f_law.binds (ps := ["_law_script"]) fun _ _ _ _ _ _ us hl => match us, hl with | [_], _ => rfl
theorem b_Spots___init__ {K : PySem.W.Frag} {mg : Str → Option Value} (T : Txt K mg) : Binds K T.d_Spots___init__ ["self", "table", "order"] [] := T.f_Spots___init__.binds (ps := ["self", "table", "order"]) fun _ _ _ _ _ _ us hl => match us, hl with | [_, _, _], _ => rfl
theorem b_Spots_is_mixed {K : PySem.W.Frag} {mg : Str → Option Value} (T : Txt K mg) : Binds K T.d_Spots_is_mixed ["self", "column", "spots"] [] := T.f_Spots_is_mixed.binds (ps := ["self", "column", "spots"]) fun _ _ _ _ _ _ us hl => match us, hl with | [_, _, _], _ => rfl
theorem b_Spots_is_tied {K : PySem.W.Frag} {mg : Str → Option Value} (T : Txt K mg) : Binds K T.d_Spots_is_tied ["self", "column", "spots"] [] := T.f_Spots_is_tied.binds (ps := ["self", "column", "spots"]) fun _ _ _ _ _ _ us hl => match us, hl with | [_, _, _], _ => rfl
theorem b_Spots_bars {K : PySem.W.Frag} {mg : Str → Option Value} (T : Txt K mg) : Binds K T.d_Spots_bars ["self", "spots"] [] := T.f_Spots_bars.binds (ps := ["self", "spots"]) fun _ _ _ _ _ _ us hl => match us, hl with | [_, _], _ => rfl
theorem b_Spots_settled {K : PySem.W.Frag} {mg : Str → Option Value} (T : Txt K mg) : Binds K T.d_Spots_settled ["self"] [] := T.f_Spots_settled.binds (ps := ["self"]) fun _ _ _ _ _ _ us hl => match us, hl with | [_], _ => rfl
theorem b_Table___init__ {K : PySem.W.Frag} {mg : Str → Option Value} (T : Txt K mg) : Binds K T.d_Table___init__ ["self", "width", "rows"] [] := T.f_Table___init__.binds (ps := ["self", "width", "rows"]) fun _ _ _ _ _ _ us hl => match us, hl with | [_, _, _], _ => rfl
theorem b_Table_width {K : PySem.W.Frag} {mg : Str → Option Value} (T : Txt K mg) : Binds K T.d_Table_width ["self"] [] := T.f_Table_width.binds (ps := ["self"]) fun _ _ _ _ _ _ us hl => match us, hl with | [_], _ => rfl
theorem b_Table_column {K : PySem.W.Frag} {mg : Str → Option Value} (T : Txt K mg) : Binds K T.d_Table_column ["self", "column"] [] := T.f_Table_column.binds (ps := ["self", "column"]) fun _ _ _ _ _ _ us hl => match us, hl with | [_, _], _ => rfl
theorem b_Table___len__ {K : PySem.W.Frag} {mg : Str → Option Value} (T : Txt K mg) : Binds K T.d_Table___len__ ["self"] [] := T.f_Table___len__.binds (ps := ["self"]) fun _ _ _ _ _ _ us hl => match us, hl with | [_], _ => rfl
theorem kb_judge_barring_0_spots_order_table {K : PySem.W.Frag} {mg : Str → Option Value} (T : Txt K mg) : KBinds K T.d_judge_barring ["table", "order", "spots"] ["spots", "order", "table"] (kg 0 3 [2, 1, 0]) (kg 0 3 [2, 1, 0]) := kbinds 0 3 [2, 1, 0] T.f_judge_barring (by decide) fun _ _ _ _ _ _ us ws h1 h2 => match us, h1, ws, h2 with | [], _, [_, _, _], _ => rfl
theorem kb_least_barring_0_order_table {K : PySem.W.Frag} {mg : Str → Option Value} (T : Txt K mg) : KBinds K T.d_least_barring ["table", "order"] ["order", "table"] (kg 0 2 [1, 0]) (kg 0 2 [1, 0]) := kbinds 0 2 [1, 0] T.f_least_barring (by decide) fun _ _ _ _ _ _ us ws h1 h2 => match us, h1, ws, h2 with | [], _, [_, _], _ => rfl
theorem kb_usable_0_order_table {K : PySem.W.Frag} {mg : Str → Option Value} (T : Txt K mg) : KBinds K T.d_usable ["table", "order"] ["order", "table"] (kg 0 2 [1, 0]) (kg 0 2 [1, 0]) := kbinds 0 2 [1, 0] T.f_usable (by decide) fun _ _ _ _ _ _ us ws h1 h2 => match us, h1, ws, h2 with | [], _, [_, _], _ => rfl
theorem kb_barring_0_order_table {K : PySem.W.Frag} {mg : Str → Option Value} (T : Txt K mg) : KBinds K T.d_barring ["table", "order"] ["order", "table"] (kg 0 2 [1, 0]) (kg 0 2 [1, 0]) := kbinds 0 2 [1, 0] T.f_barring (by decide) fun _ _ _ _ _ _ us ws h1 h2 => match us, h1, ws, h2 with | [], _, [_, _], _ => rfl
end K13
set_option Elab.async false
set_option pp.maxSteps 1200
set_option linter.all false
set_option maxRecDepth 100000
set_option maxHeartbeats 4000000
/-! Clicks on heads, their forms: no program in sight. -/
namespace K13
abbrev Ky := Int × Int
def cols (ks : List Ky) : List Int := ks.map (·.1)
def click (ks : List Ky) (c : Int) : List Ky := match ks with
  | k :: r => if k.1 = c then (c, -k.2) :: r else (c, 1) :: (k :: r).filter (fun x => !decide (x.1 = c))
  | [] => [(c, 1)]
def afterL (s : List Ky) (cs : List Int) : List Ky := cs.foldl click s
def leftAlone (cs : List Int) : Bool := match cs with
  | [] => false
  | c0 :: r => !decide (c0 ∈ (c0 :: r).dropWhile (fun c => decide (c = c0)))
abbrev Fm := List Ky × Bool
def formL (cs : List Int) : Fm := (afterL [] cs, leftAlone cs)
def okK (k : Ky) : Bool := decide (0 ≤ k.1) && decide (k.2 ∈ [1, (-1 : Int)])
def areKeys (ks : List Ky) : Bool := decide ((cols ks).Nodup) && ks.all okK
def hasForm (f : Fm) : Bool := areKeys f.1 && (decide (f.2 = decide (f.1 ≠ [])) || decide (f.1.length > 1))
def lastC (ks : List Ky) : Int := (ks.getLast?.getD (0, 0)).1
def restL (ks s : List Ky) : List Ky := s.filter fun k => !decide (k.1 ∈ cols ks)
def flipL (ks : List Ky) : List Ky := match ks.getLast? with
  | none => []
  | some k => ks.dropLast ++ [(k.1, -k.2)]
def fl (b : Bool) (ks : List Ky) : List Ky := if b = true then flipL ks else ks
def hit (f : Fm) (s : List Ky) : Bool := f.2 && decide (s.head? = some (lastC f.1, 1))
def madeOf (f : Fm) (s : List Ky) : List Ky := fl (hit f s) f.1 ++ restL f.1 s
/-- valid keys -/
structure Vd (ks : List Ky) : Prop where
  nd : (cols ks).Nodup
  sg : ∀ k ∈ ks, k.2 = 1 ∨ k.2 = -1
theorem Vd.nil : Vd [] := ⟨List.nodup_nil, fun k h => by cases h⟩
theorem afterL_snoc (s : List Ky) (cs : List Int) (c : Int) : afterL s (cs ++ [c]) = click (afterL s cs) c := by
  unfold afterL
  rw [List.foldl_append]
  rfl
theorem filter_ne {ks : List Ky} {c : Int} (h : c ∉ cols ks) : ks.filter (fun x => !decide (x.1 = c)) = ks := by
  rw [List.filter_eq_self]
  intro k hk
  have : k.1 ≠ c := fun e => h (List.mem_map.mpr ⟨k, hk, e⟩)
  simp [this]
theorem cols_filter (ks : List Ky) (c : Int) : cols (ks.filter (fun x => !decide (x.1 = c))) = (cols ks).filter (fun x => !decide (x = c)) := by
  unfold cols
  rw [List.filter_map]
  rfl
theorem Vd.click {ks : List Ky} (h : Vd ks) (c : Int) : Vd (click ks c) := by
  cases ks with
  | nil => exact ⟨by simp [K13.click, cols], fun k hk => by rw [List.mem_singleton.mp hk]; exact .inl rfl⟩
  | cons k r =>
    show Vd (if k.1 = c then (c, -k.2) :: r else (c, 1) :: (k :: r).filter (fun x => !decide (x.1 = c)))
    by_cases e : k.1 = c
    · rw [if_pos e]
      refine ⟨?_, fun x hx => ?_⟩
      · have := h.nd
        simpa [cols, e] using this
      · rcases List.mem_cons.mp hx with z | z
        · rw [z]
          rcases h.sg k List.mem_cons_self with y | y <;> simp [y]
        · exact h.sg x (List.mem_cons_of_mem _ z)
    · rw [if_neg e]
      refine ⟨?_, fun x hx => ?_⟩
      · show (c :: cols ((k :: r).filter _)).Nodup
        rw [cols_filter, List.nodup_cons]
        exact ⟨by simp, h.nd.filter _⟩
      · rcases List.mem_cons.mp hx with z | z
        · rw [z]; exact .inl rfl
        · exact h.sg x (List.mem_filter.mp z).1
theorem Vd.after : ∀ {cs : List Int} {s : List Ky}, Vd s → Vd (afterL s cs)
  | [], _, h => h
  | c :: cs, _, h => Vd.after (cs := cs) (h.click c)
theorem click_ne (ks : List Ky) (c : Int) : click ks c ≠ [] := by
  cases ks with
  | nil => simp [click]
  | cons k r =>
    show (if k.1 = c then (c, -k.2) :: r else _) ≠ []
    split <;> simp
theorem click_cols {ks : List Ky} {c x : Int} : x ∈ cols (click ks c) ↔ x = c ∨ x ∈ cols ks := by
  cases ks with
  | nil => simp [click, cols]
  | cons k r =>
    show x ∈ cols (if k.1 = c then (c, -k.2) :: r else (c, 1) :: (k :: r).filter (fun y => !decide (y.1 = c))) ↔ _
    by_cases e : k.1 = c
    · rw [if_pos e]
      simp [cols, e]
    · rw [if_neg e]
      show x ∈ c :: cols ((k :: r).filter _) ↔ _
      rw [cols_filter, List.mem_cons, List.mem_filter]
      by_cases z : x = c <;> simp [z]
theorem after_cols : ∀ {cs : List Int} {s : List Ky} {x : Int}, x ∈ cols (afterL s cs) ↔ x ∈ cs ∨ x ∈ cols s
  | [], s, x => by simp [afterL]
  | c :: cs, s, x => by
    show x ∈ cols (afterL (click s c) cs) ↔ _
    rw [after_cols (cs := cs), click_cols, List.mem_cons]
    constructor
    · rintro (h | h | h)
      · exact .inl (.inr h)
      · exact .inl (.inl h)
      · exact .inr h
    · rintro ((h | h) | h)
      · exact .inr (.inl h)
      · exact .inl h
      · exact .inr (.inr h)
/-! a click on keys whose last one may be turned, and the rest behind -/
theorem rest_click {ks s : List Ky} {c : Int} : restL (click ks c) s = (restL ks s).filter (fun x => !decide (x.1 = c)) := by
  unfold restL
  rw [List.filter_filter]
  refine List.filter_congr fun k _ => ?_
  rw [Bool.eq_iff_iff]
  simp only [Bool.not_eq_true', decide_eq_false_iff_not, Bool.and_eq_true, click_cols, not_or]
theorem getLast_cons {k : Ky} {r : List Ky} (h : r ≠ []) : (k :: r).getLast? = r.getLast? := by
  cases r with
  | nil => exact absurd rfl h
  | cons x r => rfl
theorem flip_cons {k : Ky} {r : List Ky} (h : r ≠ []) : flipL (k :: r) = k :: flipL r := by
  unfold flipL
  rw [getLast_cons h]
  cases r with
  | nil => exact absurd rfl h
  | cons x r =>
    cases z : (x :: r).getLast? with
    | none => simp at z
    | some y => rfl
theorem flip_snoc (ks : List Ky) (k : Ky) : flipL (ks ++ [k]) = ks ++ [(k.1, -k.2)] := by
  unfold flipL
  rw [List.getLast?_concat, List.dropLast_concat]
theorem last_snoc (ks : List Ky) (k : Ky) : lastC (ks ++ [k]) = k.1 := by
  unfold lastC
  rw [List.getLast?_concat]
  rfl
theorem snoc_of {ks : List Ky} (h : ks ≠ []) : ∃ l k, ks = l ++ [k] := ⟨_, _, (List.dropLast_concat_getLast h).symm⟩
/-- the step of a form -/
def keeps (ks : List Ky) (c : Int) : Bool := decide (ks.length = 1) || !decide (c = lastC ks)
theorem click_fl {ks s : List Ky} {f : Bool} {c : Int} (hk : Vd ks) (ne : ks ≠ []) : click (fl f ks ++ restL ks s) c = fl (f && keeps ks c) (click ks c) ++ restL (click ks c) s := by
  rw [rest_click]
  obtain ⟨l, k, rfl⟩ := snoc_of ne
  have nd := hk.nd
  have nr : ∀ x ∈ restL (l ++ [k]) s, x.1 ∉ cols (l ++ [k]) := fun x hx => by
    have := (List.mem_filter.mp hx).2
    simpa using this
  generalize restL (l ++ [k]) s = R at nr
  have kl : k.1 ∉ cols l := by
    have : (cols l ++ [k.1]).Nodup := by simpa [cols] using nd
    exact fun h => (List.nodup_append.mp this).2.2 _ h _ (List.mem_singleton.mpr rfl) rfl
  have Rc : ∀ x ∈ R, x.1 = c → c ∉ cols (l ++ [k]) := fun x hx e => e ▸ nr x hx
  have Rf : c ∈ cols (l ++ [k]) → R.filter (fun x => !decide (x.1 = c)) = R := fun h => by
    rw [List.filter_eq_self]
    intro x hx
    have : x.1 ≠ c := fun e => Rc x hx e h
    simp [this]
  cases l with
  | nil =>
    have kp : keeps ([] ++ [k]) c = true := rfl
    rw [kp, Bool.and_true]
    have ef : fl f ([] ++ [k]) = [if f = true then (k.1, -k.2) else k] := by
      unfold fl
      rw [flip_snoc]
      cases f <;> rfl
    rw [ef]
    show click ((if f = true then (k.1, -k.2) else k) :: R) c = fl f (click [k] c) ++ _
    have k1 : (if f = true then (k.1, -k.2) else k).1 = k.1 := by cases f <;> rfl
    by_cases e : k.1 = c
    · have Rf := Rf (by simp [cols, e])
      show (if (if f = true then (k.1, -k.2) else k).1 = c then _ else _) = fl f (if k.1 = c then [(c, -k.2)] else _) ++ _
      rw [k1, if_pos e, if_pos e, Rf]
      have : fl f [(c, -k.2)] = [if f = true then (c, k.2) else (c, -k.2)] := by
        unfold fl
        rw [show [(c, -k.2)] = [] ++ [(c, -k.2)] from rfl, flip_snoc]
        cases f <;> simp
      rw [this]
      cases f <;> simp
    · show (if (if f = true then (k.1, -k.2) else k).1 = c then _ else _) = fl f (if k.1 = c then _ else (c, 1) :: [k].filter _) ++ _
      rw [k1, if_neg e, if_neg e, List.filter_cons, k1]
      have d : (!decide (k.1 = c)) = true := by simp [e]
      have f1 : [k].filter (fun x => !decide (x.1 = c)) = [k] := by rw [List.filter_cons, d]; rfl
      rw [f1, if_pos d]
      have : fl f [(c, 1), k] = [(c, 1), if f = true then (k.1, -k.2) else k] := by
        unfold fl
        rw [show [(c, 1), k] = [(c, 1)] ++ [k] from rfl, flip_snoc]
        cases f <;> rfl
      rw [this]
      rfl
  | cons k0 l =>
    have ef : fl f (k0 :: l ++ [k]) = k0 :: l ++ [if f = true then (k.1, -k.2) else k] := by
      unfold fl
      rw [flip_snoc]
      cases f <;> rfl
    rw [ef]
    have k0k : k0.1 ≠ k.1 := fun e => kl (by simp [cols, e])
    by_cases e : k0.1 = c
    · have Rf := Rf (by simp [cols, e])
      have kp : keeps (k0 :: l ++ [k]) c = true := by
        unfold keeps
        rw [last_snoc]
        have : ¬ c = k.1 := fun z => k0k (e.trans z)
        simp [this]
      rw [kp, Bool.and_true]
      show (if k0.1 = c then (c, -k0.2) :: (l ++ [if f = true then (k.1, -k.2) else k] ++ R) else _) = fl f (if k0.1 = c then (c, -k0.2) :: (l ++ [k]) else _) ++ _
      rw [if_pos e, if_pos e, Rf]
      have : fl f ((c, -k0.2) :: (l ++ [k])) = (c, -k0.2) :: (l ++ [if f = true then (k.1, -k.2) else k]) := by
        unfold fl
        rw [show (c, -k0.2) :: (l ++ [k]) = ((c, -k0.2) :: l) ++ [k] from rfl, flip_snoc]
        cases f <;> rfl
      rw [this]
      rfl
    · show (if k0.1 = c then _ else (c, 1) :: (k0 :: l ++ [if f = true then (k.1, -k.2) else k] ++ R).filter _) = fl _ (if k0.1 = c then _ else (c, 1) :: (k0 :: l ++ [k]).filter _) ++ _
      rw [if_neg e, if_neg e, List.filter_append, List.filter_append]
      by_cases z : c = k.1
      · have kp : keeps (k0 :: l ++ [k]) c = false := by
          unfold keeps
          rw [last_snoc]
          simp [z]
        rw [kp, Bool.and_false]
        have f2 : [if f = true then (k.1, -k.2) else k].filter (fun x => !decide (x.1 = c)) = [] := by
          cases f <;> simp [z]
        have f3 : (k0 :: l ++ [k]).filter (fun x => !decide (x.1 = c)) = (k0 :: l).filter (fun x => !decide (x.1 = c)) := by
          rw [List.filter_append]
          simp [z]
        rw [f2, f3, List.append_nil]
        rfl
      · have kp : keeps (k0 :: l ++ [k]) c = true := by
          unfold keeps
          rw [last_snoc]
          simp [z]
        rw [kp, Bool.and_true]
        have zz : ¬ k.1 = c := fun y => z y.symm
        have f2 : [if f = true then (k.1, -k.2) else k].filter (fun x => !decide (x.1 = c)) = [if f = true then (k.1, -k.2) else k] := by
          cases f <;> simp [zz]
        have f3 : (k0 :: l ++ [k]).filter (fun x => !decide (x.1 = c)) = (k0 :: l).filter (fun x => !decide (x.1 = c)) ++ [k] := by
          rw [List.filter_append]
          simp [zz]
        rw [f2, f3]
        have : fl f ((c, 1) :: ((k0 :: l).filter (fun x => !decide (x.1 = c)) ++ [k])) = (c, 1) :: ((k0 :: l).filter (fun x => !decide (x.1 = c)) ++ [if f = true then (k.1, -k.2) else k]) := by
          unfold fl
          rw [show (c, 1) :: ((k0 :: l).filter (fun x => !decide (x.1 = c)) ++ [k]) = ((c, 1) :: (k0 :: l).filter (fun x => !decide (x.1 = c))) ++ [k] from rfl, flip_snoc]
          cases f <;> rfl
        rw [this]
        simp
end K13
set_option Elab.async false
set_option pp.maxSteps 1200
set_option linter.all false
set_option maxRecDepth 100000
set_option maxHeartbeats 4000000
/-! Orders that sortings show: by one sort with lists of keys, by stable sorts key by key, by clicks. No program in sight. -/
namespace K13
/-- the cell of a row in a column -/
def cellV (rows : List (List Int)) (i c : Int) : Int := (rows.getD i.toNat []).getD c.toNat 0
def kv (rows : List (List Int)) (k : Ky) (i : Int) : Int := k.2 * cellV rows i k.1
def keyL (rows : List (List Int)) (ks : List Ky) (i : Int) : List Int := ks.map (fun k => kv rows k i) ++ [i]
def ns (n : Nat) : List Int := (List.range n).map fun (i : Nat) => (i : Int)
/-- the order by one sort -/
def ordL (rows : List (List Int)) (ks : List Ky) : List Int := (ns rows.length).mergeSort fun i j => decide (keyL rows ks i ≤ keyL rows ks j)
def sortBy (rows : List (List Int)) (k : Ky) (l : List Int) : List Int := l.mergeSort fun i j => decide (kv rows k i ≤ kv rows k j)
/-- the order by stable sorts, the first key last -/
def ordF (rows : List (List Int)) : List Ky → List Int
  | [] => ns rows.length
  | k :: ks => sortBy rows k (ordF rows ks)
/-- i not behind j -/
def rel (rows : List (List Int)) : List Ky → Int → Int → Prop
  | [], i, j => i ≤ j
  | k :: ks, i, j => kv rows k i < kv rows k j ∨ (kv rows k i = kv rows k j ∧ rel rows ks i j)
section
variable {rows : List (List Int)}
theorem rel_le : ∀ {ks : List Ky} {i j : Int}, keyL rows ks i ≤ keyL rows ks j ↔ rel rows ks i j
  | [], i, j => by
    show ([i] : List Int) ≤ [j] ↔ i ≤ j
    rw [← List.not_lt, List.cons_lt_cons_iff]
    simp
  | k :: ks, i, j => by
    have h := rel_le (ks := ks) (i := i) (j := j)
    show (kv rows k i :: keyL rows ks i : List Int) ≤ kv rows k j :: keyL rows ks j ↔ (kv rows k i < kv rows k j ∨ (kv rows k i = kv rows k j ∧ rel rows ks i j))
    rw [← h, ← List.not_lt, List.cons_lt_cons_iff, ← List.not_lt]
    constructor
    · intro z
      rcases Int.lt_trichotomy (kv rows k i) (kv rows k j) with y | y | y
      · exact .inl y
      · exact .inr ⟨y, fun q => z (.inr ⟨y.symm, q⟩)⟩
      · exact (z (.inl y)).elim
    · rintro (y | ⟨y, q⟩) (z | ⟨z, p⟩)
      · omega
      · omega
      · omega
      · exact q p
theorem rel_total : ∀ (ks : List Ky) (i j : Int), rel rows ks i j ∨ rel rows ks j i
  | [], i, j => Int.le_total i j
  | k :: ks, i, j => by
    rcases Int.lt_trichotomy (kv rows k i) (kv rows k j) with y | y | y
    · exact .inl (.inl y)
    · rcases rel_total ks i j with z | z
      · exact .inl (.inr ⟨y, z⟩)
      · exact .inr (.inr ⟨y.symm, z⟩)
    · exact .inr (.inl y)
theorem rel_anti : ∀ (ks : List Ky) (i j : Int), rel rows ks i j → rel rows ks j i → i = j
  | [], i, j, a, b => Int.le_antisymm a b
  | k :: ks, i, j, a, b => by
    rcases a with a | ⟨a, p⟩ <;> rcases b with b | ⟨b, q⟩
    · omega
    · omega
    · omega
    · exact rel_anti ks i j p q
theorem rel_trans : ∀ (ks : List Ky) (i j l : Int), rel rows ks i j → rel rows ks j l → rel rows ks i l
  | [], i, j, l, a, b => Int.le_trans a b
  | k :: ks, i, j, l, a, b => by
    rcases a with a | ⟨a, p⟩ <;> rcases b with b | ⟨b, q⟩
    · exact .inl (by omega)
    · exact .inl (by omega)
    · exact .inl (by omega)
    · exact .inr ⟨by omega, rel_trans ks i j l p q⟩
theorem ns_nd (n : Nat) : (ns n).Nodup := by
  unfold ns List.Nodup
  rw [List.pairwise_map]
  exact (List.nodup_range (n := n)).imp fun h z => h (by omega)
theorem ns_mem {n : Nat} {i : Int} (h : i ∈ ns n) : 0 ≤ i ∧ i < n := by
  obtain ⟨j, hj, e⟩ := List.mem_map.mp h
  have := List.mem_range.mp hj
  omega
theorem ns_len (n : Nat) : (ns n).length = n := by
  unfold ns
  rw [List.length_map, List.length_range]
theorem sortBy_perm (k : Ky) (l : List Int) : (sortBy rows k l).Perm l := List.mergeSort_perm _ _
theorem ordF_perm : ∀ (ks : List Ky), (ordF rows ks).Perm (ns rows.length)
  | [] => .refl _
  | k :: ks => (sortBy_perm k _).trans (ordF_perm ks)
theorem ordL_perm (ks : List Ky) : (ordL rows ks).Perm (ns rows.length) := List.mergeSort_perm _ _
theorem two_ways : ∀ {l : List Int} {i j : Int}, l.Nodup → [i, j].Sublist l → [j, i].Sublist l → i ≠ j → False
  | [], _, _, _, a, _, _ => by cases a
  | x :: xs, i, j, hn, a, b, ne => by
    have n := List.nodup_cons.mp hn
    cases a with
    | cons _ a =>
      cases b with
      | cons _ b => exact two_ways n.2 a b ne
      | cons_cons _ b => exact n.1 (a.subset (by simp))
    | cons_cons _ a =>
      cases b with
      | cons _ b => exact n.1 (b.subset (by simp))
      | cons_cons _ b => exact ne rfl
theorem ways2 : ∀ {l : List Int} {i j : Int}, i ∈ l → j ∈ l → i ≠ j → [i, j].Sublist l ∨ [j, i].Sublist l
  | [], _, _, a, _, _ => nomatch a
  | x :: xs, i, j, a, b, ne => by
    rcases List.mem_cons.mp a with e1 | e1 <;> rcases List.mem_cons.mp b with e2 | e2
    · exact (ne (e1.trans e2.symm)).elim
    · rw [e1]
      exact .inl (List.Sublist.cons_cons x (List.singleton_sublist.mpr e2))
    · rw [e2]
      exact .inr (List.Sublist.cons_cons x (List.singleton_sublist.mpr e1))
    · exact (ways2 e1 e2 ne).imp (fun z => z.cons x) fun z => z.cons x
/-- a stable sort of a list that stands by r stands by the key, and for equal keys by r -/
theorem sortBy_rel {k : Ky} {l : List Int} {r : Int → Int → Prop} (nd : l.Nodup) (h : l.Pairwise r) : (sortBy rows k l).Pairwise fun i j => kv rows k i < kv rows k j ∨ (kv rows k i = kv rows k j ∧ r i j) := by
  have tr : ∀ a b c : Int, decide (kv rows k a ≤ kv rows k b) = true → decide (kv rows k b ≤ kv rows k c) = true → decide (kv rows k a ≤ kv rows k c) = true := fun a b c x y => decide_eq_true (Int.le_trans (of_decide_eq_true x) (of_decide_eq_true y))
  have to : ∀ a b : Int, (decide (kv rows k a ≤ kv rows k b) || decide (kv rows k b ≤ kv rows k a)) = true := fun a b => by
    rcases Int.le_total (kv rows k a) (kv rows k b) with z | z <;> simp [z]
  have hp := List.pairwise_mergeSort (le := fun i j => decide (kv rows k i ≤ kv rows k j)) tr to l
  have hn : (sortBy rows k l).Nodup := (sortBy_perm k l).nodup_iff.mpr nd
  refine List.pairwise_iff_forall_sublist.mpr fun {i j} hs => ?_
  have le : kv rows k i ≤ kv rows k j := of_decide_eq_true (List.pairwise_iff_forall_sublist.mp hp hs)
  rcases Int.lt_or_eq_of_le le with z | z
  · exact .inl z
  · refine .inr ⟨z, ?_⟩
    have hi : i ∈ l := (sortBy_perm k l).mem_iff.mp (hs.subset (by simp))
    have hj : j ∈ l := (sortBy_perm k l).mem_iff.mp (hs.subset (by simp))
    have ne : i ≠ j := fun e => by
      have := List.pairwise_iff_forall_sublist.mp hn hs
      exact this e
    rcases ways2 hi hj ne with q | q2
    · exact List.pairwise_iff_forall_sublist.mp h q
    · have q3 : [j, i].Sublist (sortBy rows k l) := List.sublist_mergeSort tr to (List.pairwise_cons.mpr ⟨fun y hy => by
        rw [List.mem_singleton.mp hy]
        exact decide_eq_true (Int.le_of_eq z.symm), List.pairwise_singleton _ _⟩) q2
      exact (two_ways hn hs q3 ne).elim
theorem ordF_rel : ∀ (ks : List Ky), (ordF rows ks).Pairwise (rel rows ks)
  | [] => by
    show (ns rows.length).Pairwise fun i j => i ≤ j
    unfold ns
    rw [List.pairwise_map]
    exact (List.pairwise_lt_range (n := rows.length)).imp fun h => by omega
  | k :: ks => sortBy_rel ((ordF_perm ks).nodup_iff.mpr (ns_nd _)) (ordF_rel ks)
theorem ordL_rel (ks : List Ky) : (ordL rows ks).Pairwise (rel rows ks) := by
  have h := List.pairwise_mergeSort (le := fun i j => decide (keyL rows ks i ≤ keyL rows ks j)) (fun a b c x y => decide_eq_true (rel_le.mpr (rel_trans ks a b c (rel_le.mp (of_decide_eq_true x)) (rel_le.mp (of_decide_eq_true y)))))
    (fun a b => by
      rcases rel_total (rows := rows) ks a b with z | z
      · simp [rel_le.mpr z]
      · simp [rel_le.mpr z]) (ns rows.length)
  exact h.imp fun z => rel_le.mp (of_decide_eq_true z)
theorem ordL_eq (ks : List Ky) : ordL rows ks = ordF rows ks :=
  List.Perm.eq_of_pairwise (fun a b _ _ => rel_anti ks a b) (ordL_rel ks) (ordF_rel ks) ((ordL_perm ks).trans (ordF_perm ks).symm)
/-! ### clicks -/
/-- where two rows are alike in a column, its keys are of no account -/
theorem rel_drop {c i j : Int} (h : cellV rows i c = cellV rows j c) : ∀ (ks : List Ky), rel rows ks i j ↔ rel rows (ks.filter fun k => !decide (k.1 = c)) i j
  | [] => Iff.rfl
  | k :: ks => by
    have ih := rel_drop h ks
    by_cases e : k.1 = c
    · have eq : kv rows k i = kv rows k j := by
        unfold kv
        rw [e, h]
      rw [List.filter_cons_of_neg (by simp [e]), ← ih]
      show (_ ∨ _) ↔ _
      constructor
      · rintro (z | ⟨_, z⟩)
        · omega
        · exact z
      · exact fun z => .inr ⟨eq, z⟩
    · rw [List.filter_cons_of_pos (by simp [e])]
      show (_ ∨ _) ↔ (_ ∨ _)
      rw [ih]
theorem rel_front {c s i j : Int} (hs : s ≠ 0) (ks : List Ky) : rel rows ((c, s) :: ks) i j ↔ rel rows ((c, s) :: ks.filter fun k => !decide (k.1 = c)) i j := by
  show (_ ∨ _) ↔ (_ ∨ _)
  constructor
  · rintro (z | ⟨z, q⟩)
    · exact .inl z
    · exact .inr ⟨z, (rel_drop (Int.eq_of_mul_eq_mul_left hs z) ks).mp q⟩
  · rintro (z | ⟨z, q⟩)
    · exact .inl z
    · exact .inr ⟨z, (rel_drop (Int.eq_of_mul_eq_mul_left hs z) ks).mpr q⟩
theorem rel_tail {k : Ky} {as bs : List Ky} {i j : Int} (h : rel rows as i j ↔ rel rows bs i j) : rel rows (k :: as) i j ↔ rel rows (k :: bs) i j := by
  show (_ ∨ _) ↔ (_ ∨ _)
  rw [h]
/-- the keys of clicks, none put away: each as a stable sort -/
def nextK (hs : List Ky) (c : Int) : Ky := match hs with
  | (d, s) :: _ => if d = c then (c, -s) else (c, 1)
  | [] => (c, 1)
def hist : List Ky → List Int → List Ky
  | hs, [] => hs
  | hs, c :: cs => hist (nextK hs c :: hs) cs
/-- the keys that count are those of the clicks -/
structure Same (rows : List (List Int)) (hs ks : List Ky) : Prop where
  vd : Vd ks
  top : hs.head? = ks.head?
  rl : ∀ i j, rel rows hs i j ↔ rel rows ks i j
theorem Same.step {hs ks : List Ky} (h : Same rows hs ks) (c : Int) : Same rows (nextK hs c :: hs) (click ks c) := by
  cases ks with
  | nil =>
    obtain rfl : hs = [] := by
      have := h.top
      cases hs with
      | nil => rfl
      | cons _ _ => cases this
    exact ⟨h.vd.click c, rfl, fun i j => Iff.rfl⟩
  | cons k r =>
    obtain ⟨d, s⟩ := k
    obtain ⟨t, rfl⟩ : ∃ t, hs = (d, s) :: t := by
      have := h.top
      cases hs with
      | nil => cases this
      | cons a t => exact ⟨t, by rw [Option.some.inj this]⟩
    have vd := h.vd
    have hs0 : s ≠ 0 := by
      rcases vd.sg (d, s) List.mem_cons_self with z | z <;> simp at z <;> omega
    refine ⟨vd.click c, ?_, fun i j => ?_⟩
    · show some (if d = c then (c, -s) else (c, 1)) = (if d = c then (c, -s) :: r else (c, 1) :: _).head?
      split <;> rfl
    · show rel rows ((if d = c then (c, -s) else (c, 1)) :: (d, s) :: t) i j ↔ rel rows (if d = c then (c, -s) :: r else (c, 1) :: ((d, s) :: r).filter (fun x => !decide (x.1 = c))) i j
      by_cases e : d = c
      · subst e
        rw [if_pos rfl, if_pos rfl, rel_tail (h.rl i j), rel_front (by omega) ((d, s) :: r), List.filter_cons_of_neg (by simp), ← rel_front (by omega) r]
      · rw [if_neg e, if_neg e, rel_tail (h.rl i j), rel_front (by omega) ((d, s) :: r)]
theorem Same.all : ∀ (cs : List Int) {hs ks : List Ky}, Same rows hs ks → Same rows (hist hs cs) (afterL ks cs)
  | [], _, _, h => h
  | c :: cs, hs, ks, h => Same.all cs (h.step c)
theorem ord_hist (cs : List Int) : ordF rows (hist [] cs) = ordF rows (afterL [] cs) := by
  have S : Same rows (hist [] cs) (afterL [] cs) := Same.all cs ⟨Vd.nil, rfl, fun _ _ => Iff.rfl⟩
  exact List.Perm.eq_of_pairwise (fun a b _ _ => rel_anti _ a b) ((ordF_rel _).imp fun z => (S.rl _ _).mp z) (ordF_rel _) ((ordF_perm _).trans (ordF_perm _).symm)
end
end K13
set_option Elab.async false
set_option pp.maxSteps 1200
set_option linter.all false
set_option maxRecDepth 100000
set_option maxHeartbeats 4000000
/-! Orders barred by spots: no program in sight. -/
namespace K13
def odV (od : List Int) (s : Int) : Int := od.getD s.toNat 0
/-- how a column steps from the row at a spot to the next one -/
def stp (rows : List (List Int)) (od : List Int) (c s : Int) : Int := cellV rows (odV od (s + 1)) c - cellV rows (odV od s) c
def dsc (od : List Int) (s : Int) : Bool := decide (odV od s > odV od (s + 1))
def mixB (rows : List (List Int)) (od : List Int) (c : Int) (S : List Int) : Bool := S.any (fun s => decide (stp rows od c s > 0)) && S.any (fun s => decide (stp rows od c s < 0))
def tieB (rows : List (List Int)) (od : List Int) (c : Int) (S : List Int) : Bool := S.all fun s => decide (stp rows od c s = 0)
def colB (rows : List (List Int)) (od : List Int) (w : Nat) (S : List Int) : Bool := (ns w).all fun c => tieB rows od c S || mixB rows od c S
def barB (rows : List (List Int)) (od : List Int) (w : Nat) (S : List Int) : Bool := S.any (dsc od) && colB rows od w S
def cutS (rows : List (List Int)) (od : List Int) (c : Int) (L : List Int) : List Int := L.filter fun s => decide (stp rows od c s = 0)
/-- columns chosen one after the other, the spots that are left -/
inductive Run (rows : List (List Int)) (od : List Int) (w m : Nat) : List Int → List Int → Prop
  | nil : Run rows od w m [] (ns m)
  | snoc {F L : List Int} {c : Int} (r : Run rows od w m F L) (hc : c ∈ ns w) (nf : c ∉ F) (nm : mixB rows od c L = false) : Run rows od w m (F ++ [c]) (cutS rows od c L)
def Fin (rows : List (List Int)) (od : List Int) (w : Nat) (F L : List Int) : Prop := ∀ c ∈ ns w, c ∉ F → mixB rows od c L = true
section
variable {rows : List (List Int)} {od : List Int} {w m : Nat}
theorem mix_iff {c : Int} {S : List Int} : mixB rows od c S = true ↔ (∃ s ∈ S, stp rows od c s > 0) ∧ ∃ s ∈ S, stp rows od c s < 0 := by
  unfold mixB
  simp only [Bool.and_eq_true, List.any_eq_true, decide_eq_true_eq]
theorem mix_mono {c : Int} {S L : List Int} (h : ∀ s ∈ S, s ∈ L) (n : mixB rows od c L = false) : mixB rows od c S = false := by
  cases e : mixB rows od c S with
  | false => rfl
  | true =>
    obtain ⟨⟨a, ha, ha2⟩, b, hb, hb2⟩ := mix_iff.mp e
    rw [mix_iff.mpr ⟨⟨a, h a ha, ha2⟩, b, h b hb, hb2⟩] at n
    cases n
theorem mem_cut {c s : Int} {L : List Int} : s ∈ cutS rows od c L ↔ s ∈ L ∧ stp rows od c s = 0 := by
  unfold cutS
  rw [List.mem_filter, decide_eq_true_eq]
theorem Run.nodup {F L : List Int} (r : Run rows od w m F L) : F.Nodup := by
  induction r with
  | nil => exact List.nodup_nil
  | snoc r hc nf nm ih => exact List.nodup_append.mpr ⟨ih, by simp, fun a ha b hb e => nf (by rw [List.mem_singleton.mp hb] at e; exact e ▸ ha)⟩
theorem Run.sub {F L : List Int} (r : Run rows od w m F L) : ∀ c ∈ F, c ∈ ns w := by
  induction r with
  | nil => exact fun c h => nomatch h
  | snoc r hc nf nm ih =>
    intro c h
    rcases List.mem_append.mp h with z | z
    · exact ih c z
    · rw [List.mem_singleton.mp z]; exact hc
theorem Run.left {F L : List Int} (r : Run rows od w m F L) : L = (ns m).filter fun s => F.all fun c => decide (stp rows od c s = 0) := by
  induction r with
  | nil => exact (List.filter_eq_self.mpr fun s _ => rfl).symm
  | @snoc F L c r hc nf nm ih =>
    unfold cutS
    rw [ih, List.filter_filter]
    refine List.filter_congr fun s _ => ?_
    rw [List.all_append, Bool.and_comm]
    simp
theorem Run.zero {F L : List Int} (r : Run rows od w m F L) {c s : Int} (hc : c ∈ F) (hs : s ∈ L) : stp rows od c s = 0 := by
  rw [r.left] at hs
  have := List.all_eq_true.mp (List.mem_filter.mp hs).2 c hc
  simpa using this
theorem Run.into {F1 L1 F2 L2 : List Int} (r1 : Run rows od w m F1 L1) (t : Fin rows od w F1 L1) (r2 : Run rows od w m F2 L2) : (∀ c ∈ F2, c ∈ F1) ∧ ∀ s ∈ L1, s ∈ L2 := by
  induction r2 with
  | nil =>
    refine ⟨(fun c h => nomatch h), fun s hs => ?_⟩
    rw [r1.left] at hs
    exact (List.mem_filter.mp hs).1
  | @snoc F L c r hc nf nm ih =>
    have hcF : c ∈ F1 := Classical.byContradiction fun z => by
      have := t c hc z
      rw [mix_mono ih.2 nm] at this
      cases this
    refine ⟨fun x hx => ?_, fun s hs => mem_cut.mpr ⟨ih.2 s hs, r1.zero hcF hs⟩⟩
    rcases List.mem_append.mp hx with z | z
    · exact ih.1 x z
    · rw [List.mem_singleton.mp z]; exact hcF
/-- in any sequence one comes to the same -/
theorem run_same {F1 L1 F2 L2 : List Int} (r1 : Run rows od w m F1 L1) (t1 : Fin rows od w F1 L1) (r2 : Run rows od w m F2 L2) (t2 : Fin rows od w F2 L2) : L1 = L2 ∧ ∀ c, c ∈ F1 ↔ c ∈ F2 := by
  have a := r1.into t1 r2
  have b := r2.into t2 r1
  refine ⟨?_, fun c => ⟨b.1 c, a.1 c⟩⟩
  rw [r1.left, r2.left]
  refine List.filter_congr fun s _ => ?_
  rw [Bool.eq_iff_iff, List.all_eq_true, List.all_eq_true]
  exact ⟨fun h c hc => h c (a.1 c hc), fun h c hc => h c (b.1 c hc)⟩
theorem nodup_all {F : List Int} (nd : F.Nodup) (h : ∀ c ∈ F, c ∈ ns w) (l : F.length = w) : ∀ c ∈ ns w, c ∈ F := by
  intro c hc
  refine Classical.byContradiction fun z => ?_
  have : (c :: F).length ≤ (ns w).length := by
    have nl : ∀ {l m : List Int}, l.Nodup → (∀ r ∈ l, r ∈ m) → l.length ≤ m.length := fun {l} => by
      induction l with
      | nil => intro m _ _; exact Nat.zero_le _
      | cons x l ih =>
        intro m hn hs
        have h1 := List.nodup_cons.mp hn
        have hx := hs x List.mem_cons_self
        have := ih (m := m.erase x) h1.2 fun r hr => (List.mem_erase_of_ne (fun (e : r = x) => h1.1 (e ▸ hr))).mpr (hs r (List.mem_cons_of_mem _ hr))
        rw [List.length_erase_of_mem hx] at this
        have := List.length_pos_of_mem hx
        rw [List.length_cons]
        omega
    refine nl (List.nodup_cons.mpr ⟨z, nd⟩) fun r hr => ?_
    rcases List.mem_cons.mp hr with y | y
    · rw [y]; exact hc
    · exact h r y
  rw [List.length_cons, ns_len] at this
  omega
theorem Run.full {F L : List Int} (r : Run rows od w m F L) (l : F.length = w) : Fin rows od w F L := fun c hc nf => (nf (nodup_all r.nodup r.sub l c hc)).elim
theorem Run.len {F L : List Int} (r : Run rows od w m F L) : F.length ≤ w := by
  refine Classical.byContradiction fun z => ?_
  have hl : (F.take w).length = w := by rw [List.length_take]; omega
  have nd := r.nodup
  have all := nodup_all (F := F.take w) (nd.sublist (List.take_sublist _ _)) (fun c hc => r.sub c (List.mem_of_mem_take hc)) hl
  have hx : F[w]? = some (F[w]'(by omega)) := List.getElem?_eq_getElem _
  have hin := all _ (r.sub _ (List.getElem_mem (by omega : w < F.length)))
  have hdis := List.nodup_append.mp (show (F.take w ++ F.drop w).Nodup by rw [List.take_append_drop]; exact nd)
  exact hdis.2.2 _ hin _ (List.mem_iff_getElem?.mpr ⟨0, by rw [List.getElem?_drop]; exact hx⟩) rfl
/-- a list all of whose columns are tied or mixed lies within what is left -/
theorem Run.holds {F L S : List Int} (r : Run rows od w m F L) (hS : ∀ s ∈ S, s ∈ ns m) (hc : colB rows od w S = true) : ∀ s ∈ S, s ∈ L := by
  induction r with
  | nil => exact hS
  | @snoc F L c r hcw nf nm ih =>
    intro s hs
    refine mem_cut.mpr ⟨ih s hs, ?_⟩
    have := List.all_eq_true.mp hc c hcw
    rw [mix_mono ih nm, Bool.or_false] at this
    have := List.all_eq_true.mp this s hs
    simpa using this
theorem Run.allc {F L : List Int} (r : Run rows od w m F L) (t : Fin rows od w F L) : colB rows od w L = true := by
  refine List.all_eq_true.mpr fun c hc => ?_
  by_cases h : c ∈ F
  · have : tieB rows od c L = true := List.all_eq_true.mpr fun s hs => decide_eq_true (r.zero h hs)
    rw [this, Bool.true_or]
  · rw [t c hc h, Bool.or_true]
/-! ### orders that sortings show -/
theorem od_get {s : Int} (h0 : 0 ≤ s) (h1 : s < od.length) : ∃ n : Nat, s = (n : Int) ∧ od[n]? = some (odV od s) := by
  obtain ⟨n, rfl⟩ : ∃ n : Nat, s = (n : Int) := ⟨s.toNat, by omega⟩
  refine ⟨n, rfl, ?_⟩
  unfold odV
  rw [Int.toNat_natCast, List.getD_eq_getElem?_getD, List.getElem?_eq_getElem (by omega)]
  rfl
theorem od_pair {r : Int → Int → Prop} (h : od.Pairwise r) {s : Int} (h0 : 0 ≤ s) (h1 : s + 1 < od.length) : r (odV od s) (odV od (s + 1)) := by
  obtain ⟨n, rfl, e⟩ := od_get h0 (by omega : s < od.length)
  obtain ⟨k, ek, e2⟩ := od_get (by omega) h1
  obtain rfl : k = n + 1 := by omega
  have h1 := List.getElem?_eq_some_iff.mp e
  have h2 := List.getElem?_eq_some_iff.mp e2
  rw [← h1.2, ← h2.2]
  exact List.pairwise_iff_getElem.mp h n (n + 1) h1.1 h2.1 (by omega)
/-- where all keys are tied, rel goes by the rows' numbers; in what is left no sorting's key is mixed -/
theorem shown_tied {ks : List Ky} {S : List Int} (hw : ∀ k ∈ ks, k.1 ∈ ns w ∧ k.2 ≠ 0) (hc : colB rows od w S = true) (hr : ∀ s ∈ S, rel rows ks (odV od s) (odV od (s + 1))) : ∀ s ∈ S, odV od s ≤ odV od (s + 1) := by
  induction ks with
  | nil => exact hr
  | cons k ks ih =>
    obtain ⟨kc, k0⟩ := hw k List.mem_cons_self
    have sgn : ∀ s ∈ S, k.2 * stp rows od k.1 s ≥ 0 := fun s hs => by
      have e : k.2 * stp rows od k.1 s = kv rows k (odV od (s + 1)) - kv rows k (odV od s) := by
        unfold stp kv
        rw [Int.mul_sub]
      rw [e]
      rcases hr s hs with z | ⟨z, _⟩ <;> omega
    have nm : mixB rows od k.1 S = false := by
      cases e : mixB rows od k.1 S with
      | false => rfl
      | true =>
        obtain ⟨⟨a, ha, ha2⟩, b, hb, hb2⟩ := mix_iff.mp e
        have h1 := sgn a ha
        have h2 := sgn b hb
        rcases Int.lt_or_gt_of_ne k0 with z | z
        · have := Int.mul_neg_of_neg_of_pos z ha2
          omega
        · have := Int.mul_neg_of_pos_of_neg z hb2
          omega
    have tie : ∀ s ∈ S, stp rows od k.1 s = 0 := fun s hs => by
      have := List.all_eq_true.mp hc k.1 kc
      rw [nm, Bool.or_false] at this
      have := List.all_eq_true.mp this s hs
      simpa using this
    refine ih (fun q hq => hw q (List.mem_cons_of_mem _ hq)) fun s hs => ?_
    rcases hr s hs with z | ⟨_, q⟩
    · have t := tie s hs
      unfold stp at t
      unfold kv at z
      rw [show cellV rows (odV od (s + 1)) k.1 = cellV rows (odV od s) k.1 by omega] at z
      omega
    · exact q
end
end K13
set_option Elab.async false
set_option pp.maxSteps 1200
set_option linter.all false
set_option maxRecDepth 100000
set_option maxHeartbeats 4000000
/-! A sorting made of the columns chosen; the parts of the spots. -/
namespace K13
section
variable {rows : List (List Int)} {od : List Int} {w m : Nat}
/-- the sign that lets a column ascend over the spots -/
def sgnOf (rows : List (List Int)) (od : List Int) (c : Int) (L : List Int) : Int := if L.any (fun s => decide (stp rows od c s < 0)) = true then -1 else 1
theorem sgn_ok {c : Int} {L : List Int} (h : mixB rows od c L = false) {s : Int} (hs : s ∈ L) : sgnOf rows od c L * stp rows od c s ≥ 0 := by
  unfold sgnOf
  by_cases q : L.any (fun s => decide (stp rows od c s < 0)) = true
  · rw [if_pos q]
    have : ¬ stp rows od c s > 0 := fun z => by
      unfold mixB at h
      rw [q, Bool.and_true] at h
      have : L.any (fun s => decide (stp rows od c s > 0)) = true := List.any_eq_true.mpr ⟨s, hs, decide_eq_true z⟩
      rw [this] at h
      cases h
    omega
  · rw [if_neg q]
    have : ¬ stp rows od c s < 0 := fun z => q (List.any_eq_true.mpr ⟨s, hs, decide_eq_true z⟩)
    omega
theorem sgn_pm (c : Int) (L : List Int) : sgnOf rows od c L = 1 ∨ sgnOf rows od c L = -1 := by
  unfold sgnOf
  split
  · exact .inr rfl
  · exact .inl rfl
/-- the sorting of a run: its columns, one after the other; at a spot it either ascends, or the spot is left and the rest decides -/
theorem Run.keys {F L : List Int} (r : Run rows od w m F L) : ∃ ks : List Ky, cols ks = F ∧ (∀ k ∈ ks, k.2 = 1 ∨ k.2 = -1) ∧ ∀ s ∈ ns m, ∀ rest : List Ky, (s ∈ L → rel rows rest (odV od s) (odV od (s + 1))) → rel rows (ks ++ rest) (odV od s) (odV od (s + 1)) := by
  induction r with
  | nil => exact ⟨[], rfl, (fun k h => nomatch h), fun s hs rest h => h hs⟩
  | @snoc F L c r hc nf nm ih =>
    obtain ⟨ks, h1, h2, h3⟩ := ih
    refine ⟨ks ++ [(c, sgnOf rows od c L)], ?_, fun k hk => ?_, fun s hs rest h => ?_⟩
    · unfold cols at h1 ⊢
      rw [List.map_append, h1]
      rfl
    · rcases List.mem_append.mp hk with z | z
      · exact h2 k z
      · rw [List.mem_singleton.mp z]
        exact sgn_pm c L
    · rw [List.append_assoc]
      refine h3 s hs _ fun hL => ?_
      have g := sgn_ok nm hL
      have e : sgnOf rows od c L * stp rows od c s = kv rows (c, sgnOf rows od c L) (odV od (s + 1)) - kv rows (c, sgnOf rows od c L) (odV od s) := by
        unfold stp kv
        rw [Int.mul_sub]
      show kv rows (c, sgnOf rows od c L) (odV od s) < kv rows (c, sgnOf rows od c L) (odV od (s + 1)) ∨ (kv rows (c, sgnOf rows od c L) (odV od s) = kv rows (c, sgnOf rows od c L) (odV od (s + 1)) ∧ rel rows rest (odV od s) (odV od (s + 1)))
      rcases Int.lt_or_eq_of_le g with z | z
      · exact .inl (by omega)
      · refine .inr ⟨by omega, h (mem_cut.mpr ⟨hL, ?_⟩)⟩
        rcases sgn_pm (rows := rows) (od := od) c L with y | y <;> rw [y] at z <;> omega
theorem spots_in {s : Int} (h : s ∈ ns (od.length - 1)) : 0 ≤ s ∧ s + 1 < od.length := by
  have := ns_mem h
  omega
theorem pair_rel {ks : List Ky} (h : ∀ s ∈ ns (od.length - 1), rel rows ks (odV od s) (odV od (s + 1))) : od.Pairwise (rel rows ks) := by
  have key : ∀ (k n : Nat) (h1 : n < od.length) (h2 : n + k + 1 < od.length), rel rows ks od[n] od[n + k + 1] := by
    intro k
    induction k with
    | zero =>
      intro n h1 h2
      have := h (n : Int) (List.mem_map.mpr ⟨n, List.mem_range.mpr (by omega), rfl⟩)
      have e1 : odV od (n : Int) = od[n] := by
        unfold odV
        rw [Int.toNat_natCast, List.getD_eq_getElem?_getD, List.getElem?_eq_getElem h1]
        rfl
      have e2 : odV od ((n : Int) + 1) = od[n + 1] := by
        unfold odV
        rw [show ((n : Int) + 1).toNat = n + 1 by omega, List.getD_eq_getElem?_getD, List.getElem?_eq_getElem h2]
        rfl
      rw [e1, e2] at this
      exact this
    | succ k ih =>
      intro n h1 h2
      have a := ih n h1 (by omega)
      have := h ((n + k + 1 : Nat) : Int) (List.mem_map.mpr ⟨n + k + 1, List.mem_range.mpr (by omega), rfl⟩)
      have e1 : odV od ((n + k + 1 : Nat) : Int) = od[n + k + 1] := by
        unfold odV
        rw [Int.toNat_natCast, List.getD_eq_getElem?_getD, List.getElem?_eq_getElem (by omega)]
        rfl
      have e2 : odV od (((n + k + 1 : Nat) : Int) + 1) = od[n + (k + 1) + 1] := by
        unfold odV
        rw [show (((n + k + 1 : Nat) : Int) + 1).toNat = n + (k + 1) + 1 by omega, List.getD_eq_getElem?_getD, List.getElem?_eq_getElem h2]
        rfl
      rw [e1, e2] at this
      exact rel_trans _ _ _ _ a this
  refine List.pairwise_iff_getElem.mpr fun i j hi hj hij => ?_
  have := key (j - i - 1) i hi (by omega)
  have e : i + (j - i - 1) + 1 = j := by omega
  simp only [e] at this
  exact this
/-- nothing that is left descends: some sorting of different columns shows the order -/
theorem shown_of {F L : List Int} (r : Run rows od w (od.length - 1) F L) (pm : od.Perm (ns rows.length)) (h : L.any (dsc od) = false) : ∃ ks : List Ky, Vd ks ∧ (∀ c ∈ cols ks, c ∈ ns w) ∧ ordL rows ks = od := by
  obtain ⟨ks, h1, h2, h3⟩ := r.keys
  refine ⟨ks, ⟨by rw [h1]; exact r.nodup, h2⟩, by rw [h1]; exact r.sub, ?_⟩
  have pw : od.Pairwise (rel rows ks) := pair_rel fun s hs => by
    have := h3 s hs [] fun hL => by
      have : dsc od s = false := by
        cases e : dsc od s with
        | false => rfl
        | true =>
          have : L.any (dsc od) = true := List.any_eq_true.mpr ⟨s, hL, e⟩
          rw [h] at this
          cases this
      unfold dsc at this
      have := of_decide_eq_false this
      show odV od s ≤ odV od (s + 1)
      omega
    rw [List.append_nil] at this
    exact this
  exact List.Perm.eq_of_pairwise (fun a b _ _ => rel_anti _ a b) (ordL_rel ks) pw ((ordL_perm ks).trans pm.symm)
/-- an order that a sorting shows: nothing that is left descends -/
theorem not_dsc {F L : List Int} {ks : List Ky} (r : Run rows od w (od.length - 1) F L) (t : Fin rows od w F L) (vd : Vd ks) (hc : ∀ c ∈ cols ks, c ∈ ns w) (e : ordL rows ks = od) : L.any (dsc od) = false := by
  have hr : ∀ s ∈ L, rel rows ks (odV od s) (odV od (s + 1)) := fun s hs => by
    rw [r.left] at hs
    obtain ⟨h0, h1⟩ := spots_in (List.mem_filter.mp hs).1
    exact od_pair (by rw [← e]; exact ordL_rel ks) h0 h1
  have := shown_tied (w := w) (fun k hk => ⟨hc k.1 (List.mem_map.mpr ⟨k, hk, rfl⟩), by rcases vd.sg k hk with z | z <;> omega⟩) (r.allc t) hr
  cases q : L.any (dsc od) with
  | false => rfl
  | true =>
    obtain ⟨s, hs, d⟩ := List.any_eq_true.mp q
    have d := of_decide_eq_true d
    have := this s hs
    omega
end
/-! ### parts -/
def partsN : Nat → List (List Int)
  | 0 => [[]]
  | n + 1 => partsN n ++ (partsN n).map fun p => p ++ [(n : Int)]
theorem parts_len : ∀ n, (partsN n).length = 2 ^ n
  | 0 => rfl
  | n + 1 => by
    have := parts_len n
    show (partsN n ++ (partsN n).map _).length = _
    rw [List.length_append, List.length_map, this, Nat.pow_succ]
    omega
theorem parts_mem (p : Int → Bool) : ∀ n, (ns n).filter p ∈ partsN n
  | 0 => by simp [partsN, ns]
  | n + 1 => by
    have ih := parts_mem p n
    have e : ns (n + 1) = ns n ++ [(n : Int)] := by
      unfold ns
      rw [List.range_succ, List.map_append]
      rfl
    rw [e, List.filter_append]
    show _ ∈ partsN n ++ (partsN n).map _
    by_cases h : p (n : Int) = true
    · rw [List.filter_cons, if_pos h, List.filter_nil]
      exact List.mem_append.mpr (.inr (List.mem_map.mpr ⟨_, ih, rfl⟩))
    · rw [List.filter_cons, if_neg h, List.filter_nil, List.append_nil]
      exact List.mem_append.mpr (.inl ih)
theorem parts_sub : ∀ n, ∀ p ∈ partsN n, ∀ s ∈ p, s ∈ ns n
  | 0, p, hp, s, hs => by
    rw [List.mem_singleton.mp hp] at hs
    cases hs
  | n + 1, p, hp, s, hs => by
    have ih := parts_sub n
    have e : ns (n + 1) = ns n ++ [(n : Int)] := by
      unfold ns
      rw [List.range_succ, List.map_append]
      rfl
    rw [e]
    rcases List.mem_append.mp hp with z | z
    · exact List.mem_append.mpr (.inl (ih p z s hs))
    · obtain ⟨q, hq, rfl⟩ := List.mem_map.mp z
      rcases List.mem_append.mp hs with y | y
      · exact List.mem_append.mpr (.inl (ih q hq s y))
      · exact List.mem_append.mpr (.inr y)
theorem parts_small : ∀ n, ∀ p ∈ partsN n, p.length ≤ n
  | 0, p, hp => by
    rw [List.mem_singleton.mp hp]
    exact Nat.le_refl _
  | n + 1, p, hp => by
    have ih := parts_small n
    rcases List.mem_append.mp hp with z | z
    · have := ih p z
      omega
    · obtain ⟨q, hq, rfl⟩ := List.mem_map.mp z
      have := ih q hq
      rw [List.length_append]
      show q.length + 1 ≤ n + 1
      omega
/-- the key of a part -/
def pKey (p : List Int) : List Int := (p.length : Int) :: p
def partsS (n : Nat) : List (List Int) := (partsN n).mergeSort fun p q => decide (pKey p ≤ pKey q)
theorem partsS_mem {n : Nat} {p : List Int} : p ∈ partsS n ↔ p ∈ partsN n := (List.mergeSort_perm _ _).mem_iff
section
variable {rows : List (List Int)} {od : List Int} {w : Nat}
/-- the first list that bars -/
def leastB (rows : List (List Int)) (od : List Int) (w : Nat) : Option (List Int) := (partsS (od.length - 1)).find? (barB rows od w)
theorem least_none {F L : List Int} (r : Run rows od w (od.length - 1) F L) (t : Fin rows od w F L) : leastB rows od w = none ↔ L.any (dsc od) = false := by
  unfold leastB
  rw [List.find?_eq_none]
  constructor
  · intro h
    have hL : L ∈ partsS (od.length - 1) := partsS_mem.mpr (by rw [r.left]; exact parts_mem _ _)
    have := h L hL
    unfold barB at this
    rw [r.allc t, Bool.and_true] at this
    simpa using this
  · intro h p hp z
    have hp := partsS_mem.mp hp
    unfold barB at z
    rw [Bool.and_eq_true] at z
    obtain ⟨s, hs, d⟩ := List.any_eq_true.mp z.1
    have := r.holds (parts_sub _ p hp) z.2 s hs
    have : L.any (dsc od) = true := List.any_eq_true.mpr ⟨s, this, d⟩
    rw [h] at this
    cases this
end
end K13
set_option Elab.async false
set_option pp.maxSteps 1200
set_option linter.all false
set_option maxRecDepth 100000
set_option maxHeartbeats 4000000
namespace K13
/-! what stays of the first click -/
theorem alone_snoc {c0 : Int} {r : List Int} {c : Int} : leftAlone (c0 :: r ++ [c]) = (leftAlone (c0 :: r) && (decide (∀ x ∈ r, x = c0) || !decide (c = c0))) := by
  have key : ∀ r : List Int, (c0 ∈ (r ++ [c]).dropWhile (fun x => decide (x = c0))) ↔ (c0 ∈ r.dropWhile (fun x => decide (x = c0)) ∨ (¬ (∀ x ∈ r, x = c0) ∧ c = c0)) := fun r => by
    induction r with
    | nil =>
      rw [List.nil_append, List.dropWhile_cons]
      by_cases e : c = c0
      · rw [if_pos (decide_eq_true e)]
        simp
      · rw [if_neg (by simp [e])]
        simp [e, Ne.symm e]
    | cons x r ih =>
      rw [List.cons_append, List.dropWhile_cons, List.dropWhile_cons]
      by_cases e : x = c0
      · rw [if_pos (decide_eq_true e), if_pos (decide_eq_true e), ih]
        simp [e]
      · rw [if_neg (by simp [e]), if_neg (by simp [e])]
        have ex : ¬ c0 = x := fun z => e z.symm
        simp only [List.mem_cons, List.mem_append, List.forall_mem_cons, e, false_and, not_false_iff, true_and, ex, false_or]
        simp [eq_comm]
        constructor
        · rintro (h | h)
          · exact .inl h
          · exact .inr ⟨.inl ex, h⟩
        · rintro (h | ⟨_, h⟩)
          · exact .inl h
          · exact .inr h
  show (!decide (c0 ∈ (c0 :: (r ++ [c])).dropWhile _)) = ((!decide (c0 ∈ (c0 :: r).dropWhile _)) && _)
  rw [List.dropWhile_cons, if_pos (decide_eq_true rfl), List.dropWhile_cons, if_pos (decide_eq_true rfl), Bool.eq_iff_iff]
  simp only [Bool.not_eq_true', decide_eq_false_iff_not, Bool.and_eq_true, Bool.or_eq_true, decide_eq_true_eq, key]
  constructor
  · intro h
    refine ⟨fun z => h (.inl z), ?_⟩
    by_cases a : ∀ x ∈ r, x = c0
    · exact .inl a
    · exact .inr fun z => h (.inr ⟨a, z⟩)
  · rintro ⟨h1, h2⟩ (z | ⟨z1, z2⟩)
    · exact h1 z
    · exact h2.elim z1 (fun y => y z2)
/-- of clicks that begin with c0 -/
structure Frm (c0 : Int) (r : List Int) : Prop where
  one : (afterL [] (c0 :: r)).length = 1 ↔ ∀ x ∈ r, x = c0
  last : leftAlone (c0 :: r) = true → lastC (afterL [] (c0 :: r)) = c0
  hit : ∀ s, Vd s → afterL s (c0 :: r) = fl (leftAlone (c0 :: r) && decide (s.head? = some (c0, 1))) (afterL [] (c0 :: r)) ++ restL (afterL [] (c0 :: r)) s
theorem vk_after (cs : List Int) : Vd (afterL [] cs) := Vd.after Vd.nil
theorem after_ne (c0 : Int) (r : List Int) : afterL [] (c0 :: r) ≠ [] := by
  have : c0 ∈ cols (afterL [] (c0 :: r)) := after_cols.mpr (.inl List.mem_cons_self)
  intro z
  rw [z] at this
  cases this
theorem first_click {s : List Ky} (h : Vd s) (c : Int) : click s c = fl (decide (s.head? = some (c, 1))) [(c, 1)] ++ restL [(c, 1)] s := by
  have e2 : ∀ s : List Ky, restL [(c, 1)] s = s.filter (fun x => !decide (x.1 = c)) := fun s => by
    unfold restL cols
    refine List.filter_congr fun k _ => ?_
    simp
  have f1 : fl true [(c, 1)] = [(c, -1)] := rfl
  have f0 : fl false [(c, 1)] = [(c, 1)] := rfl
  cases s with
  | nil => rfl
  | cons k r =>
    obtain ⟨a, σ⟩ := k
    have nd := h.nd
    have sg := h.sg (a, σ) List.mem_cons_self
    rw [e2]
    show (if a = c then (c, -σ) :: r else (c, 1) :: ((a, σ) :: r).filter _) = _
    by_cases e : a = c
    · subst e
      have na : a ∉ cols r := by
        have : (a :: cols r).Nodup := nd
        exact (List.nodup_cons.mp this).1
      have fr : ((a, σ) :: r).filter (fun x => !decide (x.1 = a)) = r := by
        rw [List.filter_cons]
        simp only [decide_true, Bool.not_true]
        exact filter_ne na
      rw [if_pos rfl, fr]
      rcases sg with z | z
      · have z : σ = 1 := z
        subst z
        have : decide (((a, (1 : Int)) :: r).head? = some (a, 1)) = true := decide_eq_true rfl
        rw [this, f1]
        rfl
      · have z : σ = -1 := z
        subst z
        have : decide (((a, (-1 : Int)) :: r).head? = some (a, 1)) = false := decide_eq_false (by simp)
        rw [this, f0]
        rfl
    · rw [if_neg e]
      have : decide (((a, σ) :: r).head? = some (c, 1)) = false := decide_eq_false (by simp [e])
      rw [this, f0]
      rfl
theorem frm (c0 : Int) (r : List Int) : Frm c0 r := by
  rw [← List.reverse_reverse r]
  generalize r.reverse = l
  induction l with
  | nil =>
    refine ⟨by simp [afterL, click], fun _ => rfl, fun s hs => ?_⟩
    have : leftAlone (c0 :: ([] : List Int).reverse) = true := by simp [leftAlone]
    rw [this, Bool.true_and]
    exact first_click hs c0
  | cons c l ih =>
    rw [List.reverse_cons]
    generalize l.reverse = r at ih ⊢
    obtain ⟨i1, i2, i3⟩ := ih
    have as : ∀ s, afterL s (c0 :: (r ++ [c])) = click (afterL s (c0 :: r)) c := fun s => afterL_snoc s (c0 :: r) c
    have ne := after_ne c0 r
    have vk := vk_after (c0 :: r)
    have la : leftAlone (c0 :: (r ++ [c])) = (leftAlone (c0 :: r) && (decide (∀ x ∈ r, x = c0) || !decide (c = c0))) := alone_snoc
    obtain ⟨ks, hk⟩ : ∃ ks, ks = afterL [] (c0 :: r) := ⟨_, rfl⟩
    have as0 : afterL [] (c0 :: (r ++ [c])) = click ks c := by rw [as, hk]
    rw [← hk] at i1 i2 i3 ne vk
    have c0k : c0 ∈ cols ks := by
      rw [hk]
      exact after_cols.mpr (.inl List.mem_cons_self)
    -- all the same: one key
    have hlen : (click ks c).length = 1 ↔ ks.length = 1 ∧ c = c0 := by
      obtain ⟨k, t, rfl⟩ := List.exists_cons_of_ne_nil ne
      have cl : click (k :: t) c = if k.1 = c then (c, -k.2) :: t else (c, 1) :: (k :: t).filter (fun x => !decide (x.1 = c)) := rfl
      rw [cl]
      by_cases e : k.1 = c
      · rw [if_pos e]
        constructor
        · intro h
          have : t = [] := List.eq_nil_of_length_eq_zero (by simpa using h)
          subst this
          have : c0 = k.1 := by simpa [cols] using c0k
          exact ⟨rfl, by rw [this, e]⟩
        · rintro ⟨h, _⟩
          simpa using h
      · rw [if_neg e]
        have : k ∈ (k :: t).filter (fun x => !decide (x.1 = c)) := List.mem_filter.mpr ⟨List.mem_cons_self, by simp [e]⟩
        have := List.length_pos_of_mem this
        constructor
        · intro h
          have h' : ((k :: t).filter (fun x => !decide (x.1 = c))).length + 1 = 1 := h
          exfalso
          omega
        · rintro ⟨h, hc⟩
          have : t = [] := List.eq_nil_of_length_eq_zero (by simpa using h)
          subst this
          have : c0 = k.1 := by simpa [cols] using c0k
          exact absurd (this ▸ hc.symm) e
    have one' : (click ks c).length = 1 ↔ ∀ x ∈ r ++ [c], x = c0 := by
      rw [hlen, i1]
      simp [or_imp, forall_and]
    have kp : (leftAlone (c0 :: r) && keeps ks c) = leftAlone (c0 :: (r ++ [c])) := by
      rw [la]
      cases z : leftAlone (c0 :: r) with
      | false => rfl
      | true =>
        rw [Bool.true_and, Bool.true_and]
        unfold keeps
        rw [i2 z]
        congr 1
        exact decide_eq_decide.mpr i1
    refine ⟨by rw [as0]; exact one', fun h => ?_, fun s hs => ?_⟩
    · rw [as0]
      rw [la, Bool.and_eq_true] at h
      have l0 := i2 h.1
      obtain ⟨l, k, rfl⟩ := snoc_of ne
      rw [last_snoc] at l0
      cases l with
      | nil =>
        show lastC (if k.1 = c then [(c, -k.2)] else (c, 1) :: [k].filter (fun x => !decide (x.1 = c))) = c0
        by_cases e : k.1 = c
        · rw [if_pos e]
          exact e.symm.trans l0
        · rw [if_neg e]
          have : [k].filter (fun x => !decide (x.1 = c)) = [k] := by simp [e]
          rw [this]
          exact l0
      | cons k0 l =>
        have hl : ¬ (k0 :: l ++ [k]).length = 1 := by simp
        have nall : ¬ ∀ x ∈ r, x = c0 := fun z => hl (i1.mpr z)
        have cne : c ≠ c0 := by
          rcases (Bool.or_eq_true _ _).mp h.2 with z | z
          · exact absurd (of_decide_eq_true z) nall
          · simpa using z
        show lastC (if k0.1 = c then (c, -k0.2) :: (l ++ [k]) else (c, 1) :: (k0 :: l ++ [k]).filter (fun x => !decide (x.1 = c))) = c0
        by_cases e : k0.1 = c
        · rw [if_pos e, show (c, -k0.2) :: (l ++ [k]) = ((c, -k0.2) :: l) ++ [k] from rfl, last_snoc]
          exact l0
        · rw [if_neg e, List.filter_append]
          have : [k].filter (fun x => !decide (x.1 = c)) = [k] := by
            have : ¬ k.1 = c := fun z => cne (z.symm.trans l0)
            simp [this]
          rw [this, show (c, (1 : Int)) :: ((k0 :: l).filter (fun x => !decide (x.1 = c)) ++ [k]) = ((c, (1 : Int)) :: (k0 :: l).filter (fun x => !decide (x.1 = c))) ++ [k] from rfl, last_snoc]
          exact l0
    · rw [as0, as s, i3 s hs, click_fl vk ne]
      congr 2
      rw [← kp]
      cases leftAlone (c0 :: r) <;> cases keeps ks c <;> cases decide (s.head? = some (c0, 1)) <;> rfl
/-- the form makes of every sorting what the clicks make -/
theorem made_after (cs : List Int) {s : List Ky} (hs : Vd s) : madeOf (formL cs) s = afterL s cs := by
  cases cs with
  | nil =>
    show fl (hit ([], false) s) [] ++ restL [] s = s
    unfold restL cols hit fl
    simp
  | cons c0 r =>
    have f := frm c0 r
    rw [f.hit s hs]
    unfold madeOf formL hit
    show fl (leftAlone (c0 :: r) && decide (s.head? = some (lastC (afterL [] (c0 :: r)), 1))) _ ++ _ = _
    cases z : leftAlone (c0 :: r) with
    | false => rfl
    | true => rw [f.last z]
theorem form_nil {cs : List Int} (h : (formL cs).1 = []) : formL cs = ([], false) := by
  cases cs with
  | nil => rfl
  | cons c0 r => exact absurd h (after_ne c0 r)
theorem areKeys_of {ks : List Ky} (h : Vd ks) (h0 : ∀ x ∈ cols ks, 0 ≤ x) : areKeys ks = true := by
  unfold areKeys
  rw [Bool.and_eq_true, decide_eq_true_eq, List.all_eq_true]
  refine ⟨h.nd, fun k hk => ?_⟩
  unfold okK
  rw [Bool.and_eq_true, decide_eq_true_eq, decide_eq_true_eq]
  refine ⟨h0 _ (List.mem_map.mpr ⟨k, hk, rfl⟩), ?_⟩
  rcases h.sg k hk with z | z <;> simp [z]
theorem hasForm_of {cs : List Int} (h0 : ∀ c ∈ cs, 0 ≤ c) : hasForm (formL cs) = true := by
  have ak : areKeys (afterL [] cs) = true := areKeys_of (vk_after cs) fun x hx => by
    rcases after_cols.mp hx with z | z
    · exact h0 x z
    · cases z
  unfold hasForm
  show (areKeys (afterL [] cs) && _) = true
  rw [ak, Bool.true_and, Bool.or_eq_true, decide_eq_true_eq, decide_eq_true_eq]
  cases cs with
  | nil => exact .inl rfl
  | cons c0 r =>
    have ne := after_ne c0 r
    have f := frm c0 r
    by_cases z : (afterL [] (c0 :: r)).length = 1
    · left
      have all := f.one.mp z
      have : leftAlone (c0 :: r) = true := by
        show (!decide (c0 ∈ (c0 :: r).dropWhile _)) = true
        have dw : ∀ l : List Int, (∀ x ∈ l, x = c0) → l.dropWhile (fun c => decide (c = c0)) = [] := fun l => by
          induction l with
          | nil => intro _; rfl
          | cons x l ih =>
            intro h
            rw [List.dropWhile_cons, if_pos (decide_eq_true (h x List.mem_cons_self))]
            exact ih fun y hy => h y (List.mem_cons_of_mem _ hy)
        rw [dw _ (fun x hx => by
          rcases List.mem_cons.mp hx with e | e
          · exact e
          · exact all x e)]
        rfl
      show leftAlone (c0 :: r) = decide (afterL [] (c0 :: r) ≠ [])
      rw [this, decide_eq_true ne]
    · right
      have := List.length_pos_iff.mpr ne
      show (afterL [] (c0 :: r)).length > 1
      omega
/-! the law's own bound -/
def othersL (cs : List Int) : List Int := (List.range cs.length).filterMap fun i => if cs.getD i 0 ≠ cs.getD 0 0 then some ((i : Nat) : Int) else none
def againL (cs : List Int) : List Int := (List.range cs.length).filterMap fun i => if othersL cs ≠ [] ∧ ((i : Nat) : Int) > (othersL cs).headD 0 ∧ cs.getD i 0 = cs.getD 0 0 then some ((i : Nat) : Int) else none
/-! what parts two forms -/
theorem made_diff {ks s : List Ky} (hk : Vd ks) (ne : ks ≠ []) : madeOf (ks, true) s = madeOf (ks, false) s ↔ s.head? ≠ some (lastC ks, 1) := by
  unfold madeOf hit
  show fl (true && decide (s.head? = some (lastC ks, 1))) ks ++ restL ks s = fl (false && _) ks ++ restL ks s ↔ _
  rw [Bool.true_and, Bool.false_and]
  by_cases z : s.head? = some (lastC ks, 1)
  · rw [decide_eq_true z]
    simp only [z, ne_eq, not_true, iff_false]
    intro e
    have e := List.append_cancel_right e
    obtain ⟨l, k, rfl⟩ := snoc_of ne
    have : l ++ [(k.1, -k.2)] = l ++ [k] := by
      have := e
      unfold fl at this
      rw [if_pos rfl, if_neg (by simp), flip_snoc] at this
      exact this
    have := List.append_cancel_left this
    have : -k.2 = k.2 := congrArg (fun x : List Ky => (x.head?.getD (0, 0)).2) this
    rcases hk.sg k (by simp) with y | y <;> omega
  · rw [decide_eq_false z]
    simp [z]
def firstA (f g : Fm) : Option (List Ky) := if f = g then none else if f.1 ≠ g.1 then some [] else some [(lastC f.1, 1)]
/-- all sortings, layer by layer -/
def nextL (w : Nat) (ks : List Ky) : List (List Ky) := ((List.range w).filter fun c => !decide (((c : Nat) : Int) ∈ cols ks)).flatMap fun c => [ks ++ [(((c : Nat) : Int), -1)], ks ++ [(((c : Nat) : Int), 1)]]
def layerL (w : Nat) : Nat → List (List Ky)
  | 0 => [[]]
  | n + 1 => (layerL w n).flatMap (nextL w)
def everyN (w : Nat) (n : Nat) : List (List Ky) := (List.range (n + 1)).flatMap (layerL w)
def everyL (w : Nat) : List (List Ky) := everyN w w
theorem everyN_succ (w n : Nat) : everyN w (n + 1) = everyN w n ++ layerL w (n + 1) := by
  unfold everyN
  rw [List.range_succ, List.flatMap_append]
  simp
theorem layer_vk (w : Nat) : ∀ n, ∀ s ∈ layerL w n, Vd s ∧ ∀ x ∈ cols s, 0 ≤ x ∧ x < w
  | 0, s, h => by
    rw [List.mem_singleton.mp h]
    exact ⟨Vd.nil, fun x hx => by cases hx⟩
  | n + 1, s, h => by
    obtain ⟨ks, hk, hs⟩ := List.mem_flatMap.mp h
    obtain ⟨v, b⟩ := layer_vk w n ks hk
    obtain ⟨c, hc, hs⟩ := List.mem_flatMap.mp hs
    obtain ⟨hc1, hc2⟩ := List.mem_filter.mp hc
    have cw := List.mem_range.mp hc1
    have nc : ((c : Nat) : Int) ∉ cols ks := by simpa using hc2
    have go : ∀ σ : Int, σ = 1 ∨ σ = -1 → Vd (ks ++ [(((c : Nat) : Int), σ)]) ∧ ∀ x ∈ cols (ks ++ [(((c : Nat) : Int), σ)]), 0 ≤ x ∧ x < w := fun σ hσ => by
      have ec : cols (ks ++ [(((c : Nat) : Int), σ)]) = cols ks ++ [((c : Nat) : Int)] := by simp [cols]
      refine ⟨⟨?_, fun k hk => ?_⟩, fun x hx => ?_⟩
      · rw [ec, List.nodup_append]
        exact ⟨v.nd, by simp, fun a ha b hb e => nc (by rw [← List.mem_singleton.mp hb, ← e]; exact ha)⟩
      · rcases List.mem_append.mp hk with z | z
        · exact v.sg k z
        · rw [List.mem_singleton.mp z]; exact hσ
      · rw [ec] at hx
        rcases List.mem_append.mp hx with z | z
        · exact b x z
        · rw [List.mem_singleton.mp z]; omega
    rcases List.mem_cons.mp hs with z | z
    · rw [z]; exact go (-1) (.inr rfl)
    · rw [List.mem_singleton.mp z]; exact go 1 (.inl rfl)
theorem every_vk {w : Nat} {s : List Ky} (h : s ∈ everyL w) : Vd s ∧ ∀ x ∈ cols s, 0 ≤ x ∧ x < w := by
  obtain ⟨n, _, hs⟩ := List.mem_flatMap.mp h
  exact layer_vk w n s hs
theorem every_head {w : Nat} (w1 : 1 ≤ w) : ∃ t, everyL w = [] :: ((List.range w).flatMap (fun c => [[(((c : Nat) : Int), (-1 : Int))], [(((c : Nat) : Int), 1)]])) ++ t := by
  obtain ⟨m, rfl⟩ : ∃ m, w = m + 1 := ⟨w - 1, by omega⟩
  unfold everyL everyN
  have : List.range (m + 1 + 1) = 0 :: 1 :: (List.range m).map (· + 2) := by
    rw [List.range_succ_eq_map, List.range_succ_eq_map]
    simp [Function.comp_def]
  rw [this, List.flatMap_cons, List.flatMap_cons]
  refine ⟨((List.range m).map (· + 2)).flatMap (layerL (m + 1)), ?_⟩
  have l1 : layerL (m + 1) 1 = (List.range (m + 1)).flatMap (fun c => [[(((c : Nat) : Int), (-1 : Int))], [(((c : Nat) : Int), 1)]]) := by
    show [[]].flatMap (nextL (m + 1)) = _
    have ft : (List.range (m + 1)).filter (fun c => !decide (((c : Nat) : Int) ∈ cols [])) = List.range (m + 1) := by
      rw [List.filter_eq_self]
      intro _ _
      rfl
    simp only [List.flatMap_cons, List.flatMap_nil, List.append_nil, nextL, ft, List.nil_append]
  rw [l1]
  rfl
theorem find_flat {α β : Type} (p : β → Bool) (f : α → List β) : ∀ (l : List α) (m : α) (y : β), m ∈ l → (f m).find? p = some y → (∀ x ∈ l, x ≠ m → (f x).find? p = none) → (l.flatMap f).find? p = some y
  | [], _, _, h, _, _ => by cases h
  | a :: l, m, y, h, hm, hn => by
    rw [List.flatMap_cons, List.find?_append]
    by_cases e : a = m
    · rw [e, hm]
      rfl
    · rw [hn a List.mem_cons_self e]
      rcases List.mem_cons.mp h with z | z
      · exact absurd z.symm e
      · exact find_flat p f l m y z hm fun x hx => hn x (List.mem_cons_of_mem _ hx)
def apartP (a b : List Int) (s : List Ky) : Bool := !decide (afterL s a = afterL s b)
/-- the first sorting of which two lists of clicks do not make the same -/
theorem apart_first {w : Nat} (w1 : 1 ≤ w) {a b : List Int} (ha : ∀ c ∈ a, 0 ≤ c ∧ c < w) (hb : ∀ c ∈ b, 0 ≤ c ∧ c < w) : (everyL w).find? (apartP a b) = firstA (formL a) (formL b) := by
  unfold firstA
  by_cases e : formL a = formL b
  · rw [if_pos e, List.find?_eq_none]
    intro s hs
    have v := (every_vk hs).1
    unfold apartP
    rw [← made_after a v, ← made_after b v, e]
    simp
  · rw [if_neg e]
    obtain ⟨t, et⟩ := every_head w1
    rw [et, List.cons_append, List.find?_cons]
    by_cases e1 : (formL a).1 = (formL b).1
    · rw [if_neg (not_not_intro e1)]
      have p0 : apartP a b [] = false := by
        unfold apartP
        rw [decide_eq_true (show afterL [] a = afterL [] b from e1)]
        rfl
      rw [p0]
      have ne : (formL a).1 ≠ [] := fun z => e (by rw [form_nil z, form_nil (e1 ▸ z)])
      have e2 : (formL a).2 ≠ (formL b).2 := fun z => e (Prod.ext e1 z)
      have key : ∀ s, Vd s → apartP a b s = decide (s.head? = some (lastC (formL a).1, 1)) := fun s v => by
        unfold apartP
        rw [← made_after a v, ← made_after b v]
        have md := made_diff (s := s) (show Vd (formL a).1 from vk_after a) ne
        have fa : formL a = ((formL a).1, (formL a).2) := rfl
        have fb : formL b = ((formL a).1, (formL b).2) := by rw [e1]
        cases za : (formL a).2 with
        | true =>
          have zb : (formL b).2 = false := by
            cases y : (formL b).2 with
            | false => rfl
            | true => exact absurd (za.trans y.symm) e2
          rw [fa, fb, za, zb]
          by_cases h : s.head? = some (lastC (formL a).1, 1)
          · rw [decide_eq_true h, decide_eq_false fun y => md.mp y h]
            rfl
          · rw [decide_eq_false h, decide_eq_true (md.mpr h)]
            rfl
        | false =>
          have zb : (formL b).2 = true := by
            cases y : (formL b).2 with
            | true => rfl
            | false => exact absurd (za.trans y.symm) e2
          rw [fa, fb, za, zb]
          by_cases h : s.head? = some (lastC (formL a).1, 1)
          · rw [decide_eq_true h, decide_eq_false fun y => md.mp y.symm h]
            rfl
          · rw [decide_eq_false h, decide_eq_true (md.mpr h).symm]
            rfl
      have lc : lastC (formL a).1 ∈ cols (formL a).1 := by
        obtain ⟨l, k, el⟩ := snoc_of ne
        rw [el, last_snoc]
        simp [cols]
      have lb : 0 ≤ lastC (formL a).1 ∧ lastC (formL a).1 < w := by
        rcases after_cols.mp lc with z | z
        · exact ha _ z
        · cases z
      rw [List.find?_append]
      have vs : ∀ (c σ : Int), σ = 1 ∨ σ = -1 → Vd [(c, σ)] := fun c σ h => ⟨by simp [cols], fun k hk => by rw [List.mem_singleton.mp hk]; exact h⟩
      have := find_flat (apartP a b) (fun c : Nat => [[(((c : Nat) : Int), (-1 : Int))], [(((c : Nat) : Int), 1)]]) (List.range w) (lastC (formL a).1).toNat [(lastC (formL a).1, 1)] (List.mem_range.mpr (by omega)) ?_ ?_
      · rw [this]
        rfl
      · rw [List.find?_cons, key _ (vs _ _ (.inr rfl)), List.find?_cons, key _ (vs _ _ (.inl rfl))]
        have ei : (((lastC (formL a).1).toNat : Nat) : Int) = lastC (formL a).1 := by omega
        rw [ei]
        simp
      · intro x _ hx
        rw [List.find?_cons, key _ (vs _ _ (.inr rfl)), List.find?_cons, key _ (vs _ _ (.inl rfl))]
        have : ¬ ((x : Nat) : Int) = lastC (formL a).1 := fun z => hx (by omega)
        simp [this]
    · rw [if_pos e1]
      have p0 : apartP a b [] = true := by
        unfold apartP
        rw [decide_eq_false (show ¬ afterL [] a = afterL [] b from e1)]
        rfl
      rw [p0]
/-! columns moved -/
def sh (d : Int) (ks : List Ky) : List Ky := ks.map fun k => (k.1 + d, k.2)
theorem click_sh (d : Int) (ks : List Ky) (c : Int) : click (sh d ks) (c + d) = sh d (click ks c) := by
  cases ks with
  | nil => rfl
  | cons k r =>
    show (if k.1 + d = c + d then (c + d, -k.2) :: sh d r else (c + d, 1) :: (sh d (k :: r)).filter _) = sh d (if k.1 = c then _ else _)
    by_cases e : k.1 = c
    · rw [if_pos e, if_pos (by rw [e])]
      rfl
    · rw [if_neg e, if_neg (by omega)]
      show _ = (c + d, 1) :: sh d ((k :: r).filter _)
      congr 1
      unfold sh
      rw [List.filter_map]
      congr 1
      refine List.filter_congr fun x _ => ?_
      show (!decide (x.1 + d = c + d)) = !decide (x.1 = c)
      congr 1
      rw [decide_eq_decide]
      omega
theorem after_sh (d : Int) : ∀ (cs : List Int) (s : List Ky), afterL (sh d s) (cs.map (· + d)) = sh d (afterL s cs)
  | [], _ => rfl
  | c :: cs, s => by
    show afterL (click (sh d s) (c + d)) (cs.map (· + d)) = sh d (afterL (click s c) cs)
    rw [click_sh, after_sh d cs]
theorem alone_sh (d : Int) (cs : List Int) : leftAlone (cs.map (· + d)) = leftAlone cs := by
  cases cs with
  | nil => rfl
  | cons c0 r =>
    show (!decide (c0 + d ∈ ((c0 :: r).map (· + d)).dropWhile _)) = !decide (c0 ∈ (c0 :: r).dropWhile _)
    have : ∀ l : List Int, (l.map (· + d)).dropWhile (fun c => decide (c = c0 + d)) = (l.dropWhile (fun c => decide (c = c0))).map (· + d) := fun l => by
      induction l with
      | nil => rfl
      | cons x l ih =>
        rw [List.map_cons, List.dropWhile_cons, List.dropWhile_cons]
        by_cases e : x = c0
        · rw [if_pos (decide_eq_true e), if_pos (by simp [e]), ih]
        · rw [if_neg (by simp [e]), if_neg (by simp; omega)]
          rfl
    rw [this]
    congr 1
    rw [decide_eq_decide, List.mem_map]
    exact ⟨fun ⟨x, h, e⟩ => (show x = c0 by omega) ▸ h, fun h => ⟨c0, h, rfl⟩⟩
theorem form_sh (d : Int) (cs : List Int) : formL (cs.map (· + d)) = (sh d (formL cs).1, (formL cs).2) := by
  unfold formL
  rw [alone_sh]
  have this : afterL [] (cs.map (· + d)) = sh d (afterL [] cs) := after_sh d cs []
  show (afterL [] (cs.map (· + d)), leftAlone cs) = (sh d (afterL [] cs), leftAlone cs)
  rw [this]
theorem sh_inj {d : Int} {a b : List Ky} (h : sh d a = sh d b) : a = b := by
  unfold sh at h
  refine (List.map_inj_right fun x y e => ?_).mp h
  obtain ⟨x1, x2⟩ := x
  obtain ⟨y1, y2⟩ := y
  simp only [Prod.mk.injEq] at e ⊢
  omega
theorem last_sh {d : Int} {a : List Ky} (h : a ≠ []) : lastC (sh d a) = lastC a + d := by
  obtain ⟨l, k, rfl⟩ := snoc_of h
  rw [last_snoc]
  unfold sh
  rw [List.map_append]
  exact last_snoc _ _
theorem first_sh (d : Int) {a b : List Int} : firstA (formL (a.map (· + d))) (formL (b.map (· + d))) = (firstA (formL a) (formL b)).map (sh d) := by
  rw [form_sh, form_sh]
  unfold firstA
  by_cases e : formL a = formL b
  · rw [if_pos e, if_pos (by rw [e])]
    rfl
  · have ne : ¬ ((sh d (formL a).1, (formL a).2) = (sh d (formL b).1, (formL b).2)) := fun z => e (Prod.ext (sh_inj (Prod.mk.inj z).1) (Prod.mk.inj z).2)
    rw [if_neg e, if_neg ne]
    by_cases e1 : (formL a).1 = (formL b).1
    · rw [if_neg (not_not_intro e1), if_neg (not_not_intro (by rw [e1]))]
      have na : (formL a).1 ≠ [] := fun z => e (by rw [form_nil z, form_nil (e1 ▸ z)])
      show some [(lastC (sh d (formL a).1), 1)] = some [(lastC (formL a).1 + d, 1)]
      rw [last_sh na]
    · rw [if_pos e1, if_pos (fun z => e1 (sh_inj z))]
      rfl
theorem vk_sh {d : Int} {s : List Ky} (h : Vd s) : Vd (sh d s) := by
  refine ⟨?_, fun k hk => ?_⟩
  · have : cols (sh d s) = (cols s).map (· + d) := by simp [cols, sh]
    rw [this, List.nodup_iff_pairwise_ne, List.pairwise_map]
    exact (List.nodup_iff_pairwise_ne.mp h.nd).imp fun h e => h (by omega)
  · obtain ⟨x, hx, rfl⟩ := List.mem_map.mp hk
    exact h.sg x hx
end K13
set_option Elab.async false
set_option pp.maxSteps 1200
set_option linter.all false
set_option maxRecDepth 100000
set_option maxHeartbeats 4000000
namespace K13
open PySem L2 My
def otherI (cs : List Int) : List Int := ((List.range cs.length).map fun i => (0 : Int) + ((i : Nat) : Int)).filter fun x => !decide (cs.getD x.toNat 0 = cs.getD 0 0)
def againI (cs : List Int) : List Int := ((List.range cs.length).map fun i => (0 : Int) + ((i : Nat) : Int)).filter fun x => decide (otherI cs ≠ []) && (decide (x > (otherI cs).headD 0) && decide (cs.getD x.toNat 0 = cs.getD 0 0))
theorem drop_while (P : Int → Bool) : ∀ cs : List Int, ∃ m, m ≤ cs.length ∧ cs.dropWhile P = cs.drop m ∧ (∀ i, i < m → P (cs.getD i 0) = true) ∧ (m < cs.length → P (cs.getD m 0) = false)
  | [] => ⟨0, Nat.le_refl _, rfl, fun i h => absurd h (Nat.not_lt_zero _), fun h => absurd h (Nat.not_lt_zero _)⟩
  | x :: l => by
    obtain ⟨m, h1, h2, h3, h4⟩ := drop_while P l
    cases z : P x with
    | true =>
      refine ⟨m + 1, Nat.succ_le_succ h1, ?_, fun i hi => ?_, fun h => h4 (Nat.lt_of_succ_lt_succ h)⟩
      · rw [List.dropWhile_cons, z]
        exact h2
      · cases i with
        | zero => exact z
        | succ i => exact h3 i (Nat.lt_of_succ_lt_succ hi)
    | false =>
      refine ⟨0, Nat.zero_le _, ?_, fun i h => absurd h (Nat.not_lt_zero _), fun _ => z⟩
      rw [List.dropWhile_cons, z]
      rfl
theorem bound_eq (cs : List Int) : (decide (cs ≠ []) && decide (againI cs = [])) = leftAlone cs := by
  cases cs with
  | nil => rfl
  | cons c0 r =>
    have ne : c0 :: r ≠ [] := by simp
    rw [decide_eq_true ne, Bool.true_and]
    show _ = !decide (c0 ∈ (c0 :: r).dropWhile (fun c => decide (c = c0)))
    obtain ⟨m, h1, h2, h3, h4⟩ := drop_while (fun c => decide (c = c0)) (c0 :: r)
    rw [h2]
    have g0 : (c0 :: r).getD 0 0 = c0 := rfl
    generalize hcs : c0 :: r = cs at *
    by_cases hm : m = cs.length
    · have o : otherI cs = [] := by
        unfold otherI
        rw [List.filter_eq_nil_iff]
        intro x hx
        obtain ⟨i, hi, rfl⟩ := List.mem_map.mp hx
        have hi := List.mem_range.mp hi
        have := h3 i (by omega)
        have e : ((0 : Int) + (i : Int)).toNat = i := by omega
        rw [e, g0]
        have := of_decide_eq_true this
        rw [this]
        simp
      have a : againI cs = [] := by
        unfold againI
        rw [List.filter_eq_nil_iff]
        intro x hx
        rw [o]
        simp
      rw [a, hm, List.drop_length]
      rfl
    · have ml : m < cs.length := by omega
      have h4 := h4 ml
      have fm : (otherI cs).head? = some ((m : Nat) : Int) := by
        unfold otherI
        rw [List.head?_filter, List.find?_map]
        have : (List.range cs.length).find? ((fun x : Int => !decide (cs.getD x.toNat 0 = cs.getD 0 0)) ∘ fun i : Nat => (0 : Int) + (i : Int)) = some m := by
          rw [List.find?_range_eq_some]
          have e : ∀ i : Nat, ((0 : Int) + (i : Int)).toNat = i := fun i => by omega
          refine ⟨?_, List.mem_range.mpr ml, fun j hj => ?_⟩
          · show (!decide (cs.getD ((0 : Int) + (m : Int)).toNat 0 = cs.getD 0 0)) = true
            rw [e, g0, h4]
            rfl
          · show (!(!decide (cs.getD ((0 : Int) + (j : Int)).toNat 0 = cs.getD 0 0))) = true
            rw [e, g0, h3 j hj]
            rfl
        rw [this]
        show some ((0 : Int) + (m : Int)) = _
        rw [Int.zero_add]
      have one : otherI cs ≠ [] := fun z => by rw [z] at fm; cases fm
      have hd : (otherI cs).headD 0 = ((m : Nat) : Int) := by
        rw [List.headD_eq_head?_getD, fm]
        rfl
      by_cases z : c0 ∈ cs.drop m
      · rw [decide_eq_true z]
        have : againI cs ≠ [] := fun y => by
          unfold againI at y
          rw [List.filter_eq_nil_iff] at y
          obtain ⟨i, hi⟩ := List.mem_iff_getElem?.mp z
          rw [List.getElem?_drop] at hi
          have hl := (List.getElem?_eq_some_iff.mp hi).1
          have gi : cs.getD (m + i) 0 = c0 := by rw [List.getD_eq_getElem?_getD, hi]; rfl
          have i0 : i ≠ 0 := fun e => by
            rw [e, Nat.add_zero] at gi
            rw [gi] at h4
            simp at h4
          have := y ((0 : Int) + ((m + i : Nat) : Int)) (List.mem_map.mpr ⟨m + i, List.mem_range.mpr hl, rfl⟩)
          have e : ((0 : Int) + ((m + i : Nat) : Int)).toNat = m + i := by omega
          rw [e, hd, gi, g0, decide_eq_true one, decide_eq_true rfl, decide_eq_true (show (0 : Int) + ((m + i : Nat) : Int) > (m : Int) by omega)] at this
          exact this rfl
        rw [decide_eq_false this]
        rfl
      · rw [decide_eq_false z]
        have : againI cs = [] := by
          unfold againI
          rw [List.filter_eq_nil_iff]
          intro x hx y
          obtain ⟨i, hi, rfl⟩ := List.mem_map.mp hx
          have hi := List.mem_range.mp hi
          rw [Bool.and_eq_true, Bool.and_eq_true] at y
          obtain ⟨_, y1, y2⟩ := y
          have y1 := of_decide_eq_true y1
          have y2 := of_decide_eq_true y2
          have e : ((0 : Int) + (i : Int)).toNat = i := by omega
          rw [e, g0] at y2
          rw [hd] at y1
          refine z (List.mem_iff_getElem?.mpr ⟨i - m, ?_⟩)
          rw [List.getElem?_drop, show m + (i - m) = i by omega, List.getElem?_eq_getElem hi]
          rw [List.getD_eq_getElem?_getD, List.getElem?_eq_getElem hi] at y2
          exact congrArg some y2
        rw [decide_eq_true this]
        rfl
/-! the sortings over whole numbers -/
def free (w : Nat) (ks : List Ky) : List Int := ((List.range w).map fun i => (0 : Int) + ((i : Nat) : Int)).filter fun c => !decide (c ∈ cols ks)
def both (ks : List Ky) (c : Int) : List (List Ky) := [ks ++ [(c, -1)], ks ++ [(c, 1)]]
theorem nextL_free (w : Nat) (ks : List Ky) : nextL w ks = (free w ks).flatMap (both ks) := by
  unfold nextL free both
  rw [List.filter_map, List.flatMap_map]
  have : ((fun c : Int => !decide (c ∈ cols ks)) ∘ fun i : Nat => (0 : Int) + (i : Int)) = fun c : Nat => !decide (((c : Nat) : Int) ∈ cols ks) := by
    funext i
    show (!decide ((0 : Int) + (i : Int) ∈ cols ks)) = _
    rw [Int.zero_add]
  rw [this]
  congr 1
  funext i
  show [_, _] = [_, _]
  rw [Int.zero_add]
theorem free_len (w : Nat) (ks : List Ky) : (free w ks).length ≤ w := by
  unfold free
  have := List.length_filter_le (fun c : Int => !decide (c ∈ cols ks)) ((List.range w).map fun i => (0 : Int) + ((i : Nat) : Int))
  simpa using this
theorem both_len (ks : List Ky) : ∀ l : List Int, (l.flatMap (both ks)).length = 2 * l.length
  | [] => rfl
  | c :: l => by
    rw [List.flatMap_cons, List.length_append, both_len ks l, List.length_cons]
    show 2 + _ = _
    omega
theorem next_len (w : Nat) (ks : List Ky) : (nextL w ks).length ≤ 2 * w := by
  rw [nextL_free, both_len]
  have := free_len w ks
  omega
theorem nexts_len (w : Nat) : ∀ l : List (List Ky), (l.flatMap (nextL w)).length ≤ 2 * w * l.length
  | [] => Nat.le_refl _
  | a :: l => by
    rw [List.flatMap_cons, List.length_append, List.length_cons, Nat.mul_succ]
    have := next_len w a
    have := nexts_len w l
    omega
theorem layer_len (w : Nat) : ∀ n, (layerL w n).length ≤ (2 * w) ^ n
  | 0 => Nat.le_refl _
  | n + 1 => by
    refine Nat.le_trans (nexts_len w (layerL w n)) ?_
    rw [Nat.pow_succ, Nat.mul_comm]
    exact Nat.mul_le_mul_right _ (layer_len w n)
theorem layer_le {w n : Nat} (hw : w ≤ 3) (hn : n ≤ 3) : (layerL w n).length ≤ 216 := by
  refine Nat.le_trans (layer_len w n) (Nat.le_trans (Nat.pow_le_pow_left (show 2 * w ≤ 6 by omega) n) ?_)
  exact Nat.pow_le_pow_right (by decide) hn
theorem every_le {w : Nat} (hw : w ≤ 3) : ∀ n, n ≤ 3 → (everyN w n).length ≤ 216 * (n + 1)
  | 0, _ => by
    show (everyN w 0).length ≤ 216
    unfold everyN
    have : (List.range (0 + 1)).flatMap (layerL w) = layerL w 0 := by simp [List.range_succ]
    rw [this]
    exact layer_le hw (by omega)
  | n + 1, h => by
    rw [everyN_succ, List.length_append]
    have := every_le hw n (by omega)
    have := layer_le (w := w) (n := n + 1) hw h
    omega
theorem layer_size (w : Nat) : ∀ n, ∀ s ∈ layerL w n, s.length = n
  | 0, s, h => by rw [List.mem_singleton.mp h]; rfl
  | n + 1, s, h => by
    obtain ⟨ks, hk, hs⟩ := List.mem_flatMap.mp h
    have ih := layer_size w n ks hk
    obtain ⟨c, _, hs⟩ := List.mem_flatMap.mp hs
    rcases List.mem_cons.mp hs with z | z
    · rw [z, List.length_append, ih]; rfl
    · rw [List.mem_singleton.mp z, List.length_append, ih]; rfl
theorem every_size {w : Nat} {s : List Ky} (h : s ∈ everyL w) : s.length ≤ w := by
  obtain ⟨n, hn, hs⟩ := List.mem_flatMap.mp h
  rw [layer_size w n s hs]
  have := List.mem_range.mp hn
  omega
end K13
set_option Elab.async false
set_option linter.all false
set_option maxRecDepth 100000
set_option maxHeartbeats 4000000
/-! An order is shown by one of all sortings exactly if nothing that is left descends. -/
namespace K13
theorem nodup_upto : ∀ (n : Nat) (l : List Int), l.Nodup → (∀ x ∈ l, 0 ≤ x ∧ x < (n : Int)) → l.length ≤ n
  | 0, l, _, h => by
    cases l with
    | nil => exact Nat.le_refl _
    | cons x r =>
      have := h x List.mem_cons_self
      omega
  | n + 1, l, nd, h => by
    have nd' := nd.erase (n : Int)
    have := nodup_upto n (l.erase (n : Int)) nd' fun x hx => by
      have m := (nd.mem_erase_iff).mp hx
      have := h x m.2
      have := m.1
      omega
    by_cases z : (n : Int) ∈ l
    · rw [List.length_erase_of_mem z] at this
      omega
    · rw [List.erase_of_not_mem z] at this
      omega
theorem mem_layer (w : Nat) : ∀ (n : Nat) (ks : List Ky), ks.length = n → Vd ks → (∀ x ∈ cols ks, 0 ≤ x ∧ x < (w : Int)) → ks ∈ layerL w n
  | 0, ks, hl, _, _ => by
    rw [List.eq_nil_of_length_eq_zero hl]
    exact List.mem_singleton.mpr rfl
  | n + 1, ks, hl, hv, hc => by
    obtain ⟨l, k, rfl⟩ := snoc_of (show ks ≠ [] by intro z; rw [z] at hl; cases hl)
    have nd : (cols l ++ [k.1]).Nodup := by
      have := hv.nd
      simpa [cols] using this
    have hn := List.nodup_append.mp nd
    have cl : ∀ x ∈ cols l, x ∈ cols (l ++ [k]) := fun x hx => by
      unfold cols at *
      rw [List.map_append]
      exact List.mem_append_left _ hx
    have ml := mem_layer w n l (by simpa using hl) ⟨hn.1, fun x hx => hv.sg x (List.mem_append_left _ hx)⟩ fun x hx => hc x (cl x hx)
    have kc := hc k.1 (List.mem_map.mpr ⟨k, by simp, rfl⟩)
    have kn : k.1 ∉ cols l := fun z => hn.2.2 _ z _ (List.mem_singleton.mpr rfl) rfl
    show l ++ [k] ∈ (layerL w n).flatMap (nextL w)
    refine List.mem_flatMap.mpr ⟨l, ml, ?_⟩
    unfold nextL
    refine List.mem_flatMap.mpr ⟨k.1.toNat, List.mem_filter.mpr ⟨List.mem_range.mpr (by omega), ?_⟩, ?_⟩
    · have : ((k.1.toNat : Nat) : Int) = k.1 := by omega
      rw [this]
      simp [kn]
    · have e : ((k.1.toNat : Nat) : Int) = k.1 := by omega
      rw [e]
      obtain ⟨c, s⟩ := k
      rcases hv.sg (c, s) (by simp) with z | z
      · have z : s = 1 := z
        subst z
        simp
      · have z : s = -1 := z
        subst z
        simp
theorem mem_every {w : Nat} {ks : List Ky} (hv : Vd ks) (hc : ∀ x ∈ cols ks, 0 ≤ x ∧ x < (w : Int)) : ks ∈ everyL w := by
  have hl : ks.length ≤ w := by
    have := nodup_upto w (cols ks) hv.nd hc
    simpa [cols] using this
  unfold everyL everyN
  exact List.mem_flatMap.mpr ⟨ks.length, List.mem_range.mpr (by omega), mem_layer w _ ks rfl hv hc⟩

theorem shown_iff {rows : List (List Int)} {od : List Int} {w : Nat} {F L : List Int} (rn : Run rows od w (od.length - 1) F L) (fin : Fin rows od w F L) (pm : od.Perm (ns rows.length)) : od ∈ (everyL w).map (ordF rows) ↔ L.any (dsc od) = false := by
  constructor
  · intro h
    obtain ⟨ks, hk, e⟩ := List.mem_map.mp h
    obtain ⟨v, c⟩ := every_vk hk
    rw [← ordL_eq] at e
    exact not_dsc rn fin v (fun x hx => List.mem_map.mpr ⟨x.toNat, List.mem_range.mpr (by have := c x hx; omega), by have := c x hx; omega⟩) e
  · intro h
    obtain ⟨ks, v, c, e⟩ := shown_of rn pm h
    refine List.mem_map.mpr ⟨ks, mem_every v fun x hx => ?_, by rw [← ordL_eq]; exact e⟩
    have := ns_mem (c x hx)
    omega
end K13
set_option Elab.async false
set_option pp.maxSteps 1200
set_option linter.all false
set_option maxRecDepth 100000
set_option maxHeartbeats 4000000
namespace K13
open PySem L2 My
theorem at0 {α : Type} {a : α} {l : List α} : atI (a :: l) 0 = some a := atI_nat (j := 0) rfl
theorem at1 {α : Type} {a b : α} {l : List α} : atI (a :: b :: l) 1 = some b := atI_nat (j := 1) rfl
theorem mapI_get {ts : List Int} {i : Nat} {x : V} (h : (ts.map V.int)[i]? = some x) : ∃ t, ts[i]? = some t ∧ x = V.int t := mapI_at h
theorem nef {a b : V} (h : a = b) : (!decide (a = b)) = false := by
  rw [decide_eq_true h]
  rfl
theorem same {α : Type} [DecidableEq α] {a : α} : (!decide (a = a)) = false := by
  rw [decide_eq_true rfl]
  rfl
theorem decBl (a b : Bool) : decide (V.bl a = V.bl b) = decide (a = b) := by
  rw [decide_eq_decide]
  exact ⟨fun z => by injection z, fun z => by rw [z]⟩
theorem decInt (a b : Int) : decide (V.int a = V.int b) = decide (a = b) := by
  rw [decide_eq_decide]
  exact ⟨fun z => by injection z, fun z => by rw [z]⟩
theorem inV_int (x : Int) (rows : List Int) : inV (V.int x) (rows.map V.int) = decide (x ∈ rows) := by
  unfold inV
  rw [List.any_map, Bool.eq_iff_iff, List.any_eq_true]
  constructor
  · rintro ⟨n, hn, e⟩
    have : n = x := by
      have e : (n == x) = true := e
      simpa using e
    subst this
    exact decide_eq_true hn
  · intro h
    exact ⟨x, of_decide_eq_true h, by show (x == x) = true; simp⟩
theorem flatI (rows : List Int) : (rows.map V.int).all flatV = true := by
  rw [List.all_map, List.all_eq_true]
  intro _ _
  rfl
/-! ### keys in the heap -/
def KyR (K : PySem.W.Frag) (H : Hp) (v : V) (k : Ky) : Prop := ∃ q, v = .ref q ∧ SqT K H q [.int k.1, .int k.2]
abbrev KsAt (K : PySem.W.Frag) (H : Hp) (us : List V) (ks : List Ky) : Prop := AllR (KyR K H) us ks
theorem KyR.ex {K : PySem.W.Frag} {H H' : Hp} {v : V} {k : Ky} (h : KyR K H v k) (e : Ex H H') : KyR K H' v k := let ⟨q, a, b⟩ := h; ⟨q, a, Evl.ex_t e b⟩
theorem KsAt.ex {K : PySem.W.Frag} {H H' : Hp} {us : List V} {ks : List Ky} (h : KsAt K H us ks) (e : Ex H H') : KsAt K H' us ks := h.mono fun _ _ r => r.ex e
theorem sqT_exj {K : PySem.W.Frag} {H H' : Hp} {j q : Addr} {xs ys : List V} (e : Exj j H H') (hj : H j = some (.lst ys)) (h : SqT K H q xs) : SqT K H' q xs := by
  rcases h with (h | ⟨o, h⟩) | h
  · exact .inl (.inl (e _ _ (fun z => by rw [z, hj] at h; cases h) h))
  · exact .inl (.inr ⟨o, e _ _ (fun z => by rw [z, hj] at h; cases h) h⟩)
  · exact .inr h
theorem KsAt.exj {K : PySem.W.Frag} {H H' : Hp} {j : Addr} {us ys : List V} {ks : List Ky} (h : KsAt K H us ks) (e : Exj j H H') (hj : H j = some (.lst ys)) : KsAt K H' us ks := h.mono fun _ _ ⟨q, a, b⟩ => ⟨q, a, sqT_exj e hj b⟩
/-- a list of keys at p -/
def LsK (K : PySem.W.Frag) (H : Hp) (p : Addr) (ks : List Ky) : Prop := ∃ us, H p = some (.lst us) ∧ KsAt K H us ks
theorem LsK.ex {K : PySem.W.Frag} {H H' : Hp} {p : Addr} {ks : List Ky} (h : LsK K H p ks) (e : Ex H H') : LsK K H' p ks := let ⟨us, a, b⟩ := h; ⟨us, e _ _ a, b.ex e⟩
theorem LsK.exj {K : PySem.W.Frag} {H H' : Hp} {j p : Addr} {ys : List V} {ks : List Ky} (h : LsK K H p ks) (e : Exj j H H') (n : p ≠ j) (hj : H j = some (.lst ys)) : LsK K H' p ks := let ⟨us, a, b⟩ := h; ⟨us, e _ _ n a, b.exj e hj⟩
abbrev eK : Ky → PyData := eP PyData.int PyData.int
theorem goodK : Good eK 1 := goodP goodI goodI
theorem KyR.dp {K : PySem.W.Frag} {H : Hp} {v : V} {k : Ky} (h : KyR K H v k) : Dp K H v (eK k) := by
  obtain ⟨q, rfl, b⟩ := h
  exact .tup b (.cons (.int _) (.cons (.int _) .nil))
theorem LsK.dp {K : PySem.W.Frag} {H : Hp} {p : Addr} {ks : List Ky} (h : LsK K H p ks) : Dp K H (.ref p) (eL eK ks) := let ⟨us, a, b⟩ := h; .lst (sqI a) (b.dp fun _ _ r => r.dp)
theorem nilD {K : PySem.W.Frag} {H : Hp} {p : Addr} (h : H p = some (.lst [])) : Dp K H (.ref p) (eL eK []) := .lst (sqI h) .nil
/-- a form -/
def FmR (K : PySem.W.Frag) (H : Hp) (v : V) (f : Fm) : Prop := ∃ p q, v = .ref p ∧ H p = some (.tup [.ref q, .bl f.2]) ∧ LsK K H q f.1
theorem FmR.ex {K : PySem.W.Frag} {H H' : Hp} {v : V} {f : Fm} (h : FmR K H v f) (e : Ex H H') : FmR K H' v f := let ⟨p, q, a, b, c⟩ := h; ⟨p, q, a, e _ _ b, c.ex e⟩
abbrev eF : Fm → PyData := eP (eL eK) PyData.bool
theorem goodUp {α : Type} [DecidableEq α] {e : α → PyData} {n m : Nat} (g : Good e n) (h : n ≤ m) : Good e m := ⟨g.lay, fun x => Nat.le_trans (g.dep x) h, g.eqv⟩
theorem goodF : Good eF 3 := goodP (goodL goodK) (goodUp goodB (by decide))
theorem FmR.dp {K : PySem.W.Frag} {H : Hp} {v : V} {f : Fm} (h : FmR K H v f) : Dp K H v (eF f) := by
  obtain ⟨p, q, rfl, b, c⟩ := h
  exact .tup (sqT b) (.cons c.dp (.cons (.bl _) .nil))
/-- read only -/
def LsQ (K : PySem.W.Frag) (H : Hp) (p : Addr) (ks : List Ky) : Prop := ∃ us, SqL K H p us ∧ KsAt K H us ks
theorem LsK.q {K : PySem.W.Frag} {H : Hp} {p : Addr} {ks : List Ky} (h : LsK K H p ks) : LsQ K H p ks := let ⟨us, a, b⟩ := h; ⟨us, sqI a, b⟩
theorem LsQ.ex {K : PySem.W.Frag} {H H' : Hp} {p : Addr} {ks : List Ky} (h : LsQ K H p ks) (e : Ex H H') : LsQ K H' p ks := let ⟨us, a, b⟩ := h; ⟨us, Evl.ex_l e a, b.ex e⟩
theorem LsQ.dp {K : PySem.W.Frag} {H : Hp} {p : Addr} {ks : List Ky} (h : LsQ K H p ks) : Dp K H (.ref p) (eL eK ks) := let ⟨us, a, b⟩ := h; .lst a (b.dp fun _ _ r => r.dp)
def FmQ (K : PySem.W.Frag) (H : Hp) (v : V) (f : Fm) : Prop := ∃ p q, v = .ref p ∧ SqT K H p [.ref q, .bl f.2] ∧ LsQ K H q f.1
theorem FmR.q {K : PySem.W.Frag} {H : Hp} {v : V} {f : Fm} (h : FmR K H v f) : FmQ K H v f := let ⟨p, q, a, b, c⟩ := h; ⟨p, q, a, sqT b, c.q⟩
theorem FmQ.ex {K : PySem.W.Frag} {H H' : Hp} {v : V} {f : Fm} (h : FmQ K H v f) (e : Ex H H') : FmQ K H' v f := let ⟨p, q, a, b, c⟩ := h; ⟨p, q, a, Evl.ex_t e b, c.ex e⟩
theorem dp_key {K : PySem.W.Frag} {H : Hp} {v : V} {k : Ky} (h : Dp K H v (eK k)) : KyR K H v k := by
  cases h with
  | tup ht ha =>
    cases ha with
    | cons h1 a1 =>
      cases a1 with
      | cons h2 a2 =>
        cases a2
        cases h1
        cases h2
        exact ⟨_, rfl, ht⟩
theorem dp_keys {K : PySem.W.Frag} {H : Hp} : ∀ {us : List V} {ks : List Ky}, DpAll K H us (ks.map eK) → KsAt K H us ks
  | _, [], h => by
    cases h
    exact AllR.nil
  | _, k :: ks, h => by
    cases h with
    | cons h1 a1 =>
      have := (AllR.one (R := KyR K H) (dp_key h1)).append (dp_keys a1)
      exact this
theorem dp_lsq {K : PySem.W.Frag} {H : Hp} {v : V} {ks : List Ky} (h : Dp K H v (eL eK ks)) : ∃ p, v = .ref p ∧ LsQ K H p ks := by
  cases h with
  | lst hl ha => exact ⟨_, rfl, _, hl, dp_keys ha⟩
theorem dp_fm {K : PySem.W.Frag} {H : Hp} {v : V} {f : Fm} (h : Dp K H v (eF f)) : FmQ K H v f := by
  cases h with
  | tup ht ha =>
    cases ha with
    | cons h1 a1 =>
      cases a1 with
      | cons h2 a2 =>
        cases a2
        cases h2
        obtain ⟨p, rfl, hp⟩ := dp_lsq h1
        exact ⟨_, p, rfl, ht, hp⟩
theorem optHead {ks : List Ky} (h : ks ≠ []) : ∃ k r, ks = k :: r := List.exists_cons_of_ne_nil h
/-! ### the promises -/
def NewK (K : PySem.W.Frag) (ks : List Ky) (H : Hp) (Q : L2.VK) : Prop := ∀ p H', H p = none → Ex H H' → LsK K H' p ks → Q (.ref p) H'
def sp_after_click (K : PySem.W.Frag) : Sp := fun vs H Q _ => ∃ (p : Addr) (ks : List Ky) (c : Int), vs = [.ref p, .int c] ∧ LsK K H p ks ∧ ks.length ≤ 500 ∧ NewK K (click ks c) H Q
/-- a list of keys, or None -/
def OptK (K : PySem.W.Frag) (H : Hp) (v : V) : Option (List Ky) → Prop
  | none => v = .non
  | some ks => ∃ p, v = .ref p ∧ LsK K H p ks
theorem click_len (ks : List Ky) (c : Int) : (click ks c).length ≤ ks.length + 1 := by
  cases ks with
  | nil => exact Nat.le_refl _
  | cons k r =>
    show (if k.1 = c then (c, -k.2) :: r else (c, 1) :: (k :: r).filter _).length ≤ _
    split
    · simp
    · have := List.length_filter_le (fun x : Ky => !decide (x.1 = c)) (k :: r)
      simp only [List.length_cons] at *
      omega
theorem after_len : ∀ (cs : List Int) (ks : List Ky), (afterL ks cs).length ≤ ks.length + cs.length
  | [], ks => Nat.le_refl _
  | c :: cs, ks => by
    have := after_len cs (click ks c)
    have := click_len ks c
    show (afterL (click ks c) cs).length ≤ _
    rw [List.length_cons]
    omega
theorem take_after {cs : List Int} {i : Nat} {c : Int} (h : cs[i]? = some c) (ks : List Ky) : afterL ks (cs.take (i + 1)) = click (afterL ks (cs.take i)) c := by
  rw [take_snoc h, afterL_snoc]
section
variable {w : World} {K : PySem.W.Frag} {mg : Str → Option Value} {base : Heap}
end
end K13
set_option Elab.async false
set_option pp.maxSteps 1200
set_option linter.all false
set_option maxRecDepth 100000
set_option maxHeartbeats 4000000
namespace K13
open PySem L2 My
theorem at2 {α : Type} {a b c : α} {l : List α} : atI (a :: b :: c :: l) 2 = some c := atI_nat (j := 2) rfl
theorem at3 {α : Type} {a b c d : α} {l : List α} : atI (a :: b :: c :: d :: l) 3 = some d := atI_nat (j := 3) rfl
theorem Ex_back {H H' : Hp} (e : Ex H H') {x : Addr} (hx : H' x = none) : H x = none := by
  cases q : H x with
  | none => rfl
  | some o =>
    rw [e _ _ q] at hx
    cases hx
def sp_need_column : Sp := fun vs H Q _ => ∃ (w c : Int), vs = [.int w, .int c] ∧ 0 ≤ c ∧ c < w ∧ Q .non H
def sp_Table___init__ (K : PySem.W.Frag) (C : Addr) : Sp := fun vs H Q _ => ∃ (x dx ra : Addr) (w : Nat) (us : List V) (rows : List (List Int)), vs = [.ref x, .int (w : Nat), .ref ra] ∧ H x = some (.ins C dx []) ∧ H ra = some (.lst us) ∧ CellsAt H us rows ∧ (∀ r ∈ rows, r.length = w) ∧ 1 ≤ w ∧ rows.length ≤ 1000 ∧ ∀ H', Exj x H H' → Tab C H' x w rows → Q .non H'
def sp_Table_width (C : Addr) : Sp := fun vs H Q _ => ∃ (t : Addr) (w : Nat) (rows : List (List Int)), vs = [.ref t] ∧ Tab C H t w rows ∧ Q (.int (w : Nat)) H
def sp_Table___len__ (C : Addr) : Sp := fun vs H Q _ => ∃ (t : Addr) (w : Nat) (rows : List (List Int)), vs = [.ref t] ∧ Tab C H t w rows ∧ Q (.int (rows.length : Nat)) H
def colOf (rows : List (List Int)) (c : Nat) : List Int := rows.map fun r => r.getD c 0
def sp_Table_column (C : Addr) : Sp := fun vs H Q _ => ∃ (t : Addr) (w : Nat) (c : Int) (rows : List (List Int)), vs = [.ref t, .int c] ∧ Tab C H t w rows ∧ 0 ≤ c ∧ c < w ∧ rows.length ≤ 1000 ∧ New (.lst ((colOf rows c.toNat).map V.int)) H Q
def pick (rows : List (List Int)) (ps : List Int) : List (List Int) := ps.map fun p => rows.getD p.toNat []
section
variable {w : World} {K : PySem.W.Frag} {mg : Str → Option Value} {base : Heap}
theorem ok_need_column (T : Txt K mg) : FnOk PR w K mg base (L2.CX PR w) 3 T.a_need_column T.d_need_column ["width", "column"] sp_need_column := by
  refine T.f_need_column.okX sc_need_column (fun vs H Q E h => ?_) (fun cdv A outer s H vs Q E hr h => ?_)
  · obtain ⟨w, c, rfl, _⟩ := h
    rfl
  · obtain ⟨w, c, rfl, c0, c1, k⟩ := h
    refine ⟨_, (pss_one (ps_if (pt_not (pt_chain op_le op_lt pe_int (pv 1) (pv 0))) (pss_one (ps_raise rfl (takes_of rfl rfl rfl rfl) (pmk_err (ok_init T) (b_init T) T.e_InvalidColumn (hr.mono (by decide)) (by rfl) T.g_InvalidColumn (pa_cons (pv 1) pa_nil)))) pss_nil)), ?_⟩
    refine ⟨_, rfl, _, _, rfl, rfl, _, rfl, ifT (decide_eq_true c0) ?_⟩
    exact ⟨_, rfl, _, _, rfl, rfl, _, rfl, ifF (by rw [decide_eq_true c1]; rfl) k⟩
theorem ok_Table_width (T : Txt K mg) : FnOk PR w K mg base CX0 1 T.a_Table_width T.d_Table_width ["self"] (sp_Table_width T.c_Table) := by
  refine T.f_Table_width.ok sc_Table_width (fun vs H Q E h => ?_) (fun cdv A outer s H vs Q E hr h => ?_)
  · obtain ⟨t, w, rows, rfl, _⟩ := h
    rfl
  · obtain ⟨t, w, rows, rfl, ⟨dx, cr, rs, ht, _⟩, k⟩ := h
    refine ⟨_, (pss_one (ps_ret (pe_fld (pv 0) rfl))), ?_⟩
    exact ⟨_, rfl, t, _, dx, _, _, rfl, ht, T.cl_Table, T.na_Table_wide, tf_wide _ _, k⟩
theorem ok_Table___len__ (T : Txt K mg) : FnOk PR w K mg base CX0 1 T.a_Table___len__ T.d_Table___len__ ["self"] (sp_Table___len__ T.c_Table) := by
  refine T.f_Table___len__.ok sc_Table___len__ (fun vs H Q E h => ?_) (fun cdv A outer s H vs Q E hr h => ?_)
  · obtain ⟨t, w, rows, rfl, _⟩ := h
    rfl
  · obtain ⟨t, w, rows, rfl, ⟨dx, cr, rs, ht, hc, ar, _⟩, k⟩ := h
    refine ⟨_, (pss_one (ps_ret (pe_callB call_len_seq (by rfl) T.z_len PySem.boot_len (pa_cons (pe_fld (pv 0) rfl) pa_nil)))), ?_⟩
    refine ⟨_, rfl, t, _, dx, _, _, rfl, ht, T.cl_Table, T.na_Table_cell_rows, tf_rows _ _, _, _, rfl, .inr (sqT hc), ?_⟩
    rw [ar.1]
    exact k
theorem colOf_take {rows : List (List Int)} {i : Nat} {r : List Int} (h : rows[i]? = some r) (c : Nat) : colOf (rows.take (i + 1)) c = colOf (rows.take i) c ++ [r.getD c 0] := by
  unfold colOf
  rw [take_snoc h, List.map_append]
  rfl
theorem cell_at {r : List Int} {c : Int} (h0 : 0 ≤ c) (h1 : c < r.length) : atI (r.map V.int) c = some (.int (r.getD c.toNat 0)) := by
  refine at_of (j := c.toNat) (by omega) ?_
  rw [List.getElem?_map, List.getD_eq_getElem?_getD, List.getElem?_eq_getElem (by omega)]
  rfl
theorem ok_Table_column (T : Txt K mg) : FnOk PR w K mg base (L2.CX PR w) 4 T.a_Table_column T.d_Table_column ["self", "column"] (sp_Table_column T.c_Table) := by
  refine T.f_Table_column.okX sc_Table_column (fun vs H Q E h => ?_) (fun cdv A outer s H vs Q E hr h => ?_)
  · obtain ⟨t, w, c, rows, rfl, _⟩ := h
    rfl
  · obtain ⟨t, w, c, rows, rfl, ⟨dx, cr, rs, ht, hc, ar, hw, _⟩, c0, c1, hl, k⟩ := h
    refine ⟨_, (pss_cons (ps_expr (pe_call (ok_need_column T) (hr.mono (by decide)) (by rfl) T.g_need_column T.f_need_column.kp (b_need_column T) .nil passX (pa_cons (pe_fld (pv 0) rfl) (pa_cons (pv 1) pa_nil)))) (pss_one (ps_ret (pe_lc (own := [("cells", 2)]) (g := gName 2) (by rfl) sc_Table_column.nd (pi_tup (pe_fld (pv 0) rfl)) (blkOk_by (own := [("cells", 2)]) (N := ["self", "column", "cells"]) (sc := (defScope s_Table_column)) (by decide +kernel)) (fun _ _ _ _ _ => (pg_name (i := 2) sc_Table_column.nd rfl (by first | exact Or.inl rfl | exact Or.inr rfl))) (fun _ _ _ _ _ => pts_nil) (fun _ _ _ _ _ => (pe_ix (ixK (r := rIxT) (K := K) (by rfl) ix_tup) (pv 2) (pv 1) (fun _ _ => rfl))))))), ?_⟩
    refine ⟨_, rfl, t, _, dx, _, _, rfl, ht, T.cl_Table, T.na_Table_wide, tf_wide _ _, _, rfl, _, _, rfl, c0, c1, ?_⟩
    refine ⟨_, rfl, t, _, dx, _, _, rfl, ht, T.cl_Table, T.na_Table_cell_rows, tf_rows _ _, cr, rfl, ⟨_, sqT hc⟩, fun D hD => lc_it (walk_tup (K := K) (a := cr) (xs := rs)) (fun i H' => Ex H H' ∧ H' D = some (.lst ((colOf (rows.take i) c.toNat).map V.int))) ⟨Evl.Ex.new hD, upd_same⟩ (fun i H' _ z => sqT (z.1 _ _ hc)) ?_ ?_⟩
    · rintro i v H2 H3 hi ⟨e2, d2⟩ ⟨rfl, hx⟩
      obtain ⟨r, q, hr, rfl, hq⟩ := (ar.ex e2).get hx
      have rl := hw r (List.mem_of_getElem? hr)
      refine ⟨rfl, ?_⟩
      show _
      refine ⟨_, rfl, _, rfl, _, _, _, _, rfl, rfl, sqT hq, cell_at c0 (by omega), _, d2, ?_, Evl.Ex.mut e2 hD, ?_⟩
      · unfold colOf
        rw [List.length_map, List.length_map, List.length_take]
        exact Nat.lt_of_le_of_lt (show _ ≤ 1000 by omega) (by decide)
      · rw [upd_same, colOf_take hr, List.map_append]
        rfl
    · rintro H2 ⟨e2, d2⟩
      have := ar.1
      rw [List.take_of_length_le (by omega)] at d2
      exact k D H2 hD e2 d2
theorem ok_Table___init__ (T : Txt K mg) : FnOk PR w K mg base (L2.CX PR w) 3 T.a_Table___init__ T.d_Table___init__ ["self", "width", "rows"] (sp_Table___init__ K T.c_Table) := by
  refine T.f_Table___init__.okX sc_Table___init__ (fun vs H Q E h => ?_) (fun cdv A outer s H vs Q E hr h => ?_)
  · obtain ⟨x, dx, ra, w, us, rows, rfl, _⟩ := h
    rfl
  · obtain ⟨x, dx, ra, w, us, rows, rfl, hx, hra, hc, hw, w1, hl, k⟩ := h
    refine ⟨_, (pss_cons (ps_if (pt_cmpR op_lt (pv 1) pe_int (nomark _)) (pss_one (ps_raise rfl (takes_of rfl rfl rfl rfl) (pmk_err (ok_init T) (b_init T) T.e_InvalidNumber (hr.mono (by decide)) (by rfl) T.g_InvalidNumber (pa_cons (pv 1) pa_nil)))) pss_nil) (pss_cons (ps_for (passes_of rfl) rfl (pi_enum (by rfl) T.z_enumerate (pa_cons (pv 2) pa_nil)) (pg_tup rfl (pgs_cons (pg_name (i := 3) sc_Table___init__.nd rfl (by first | exact Or.inl rfl | exact Or.inr rfl)) (pgs_cons (pg_name (i := 4) sc_Table___init__.nd rfl (by first | exact Or.inl rfl | exact Or.inr rfl)) pgs_nil))) (pss_one (ps_if (pt_cmpR op_ne (pe_callB call_len_seq (by rfl) T.z_len PySem.boot_len (pa_cons (pv 4) pa_nil)) (pv 1) (nomark _)) (pss_one (ps_raise rfl (takes_of rfl rfl rfl rfl) (pmk_err (ok_init T) (b_init T) T.e_InvalidRow (hr.mono (by decide)) (by rfl) T.g_InvalidRow (pa_cons (pv 3) pa_nil)))) pss_nil))) (pss_cons (ps_fld (pv 0) (pv 1) rfl) (pss_one (ps_fld (pv 0) (pe_callTy call_tupleG (by rfl) T.z_tuple (by decide +kernel) (pa_cons (pe_lc (own := [("cells", 4)]) (g := gName 4) (by rfl) sc_Table___init__.nd (pi_list (pv 2)) (blkOk_by (own := [("cells", 4)]) (N := ["self", "width", "rows", "index", "cells"]) (sc := (defScope s_Table___init__)) (by decide +kernel)) (fun _ _ _ _ _ => (pg_name (i := 4) sc_Table___init__.nd rfl (by first | exact Or.inl rfl | exact Or.inr rfl))) (fun _ _ _ _ _ => pts_nil) (fun _ _ _ _ _ => (pe_callTy (crK (r := rTupleA) (K := K) (by rfl) call_tupleA) (by rfl) T.z_tuple (by decide +kernel) (pa_cons (pv 4) pa_nil)))) pa_nil)) rfl))))), ?_⟩
    refine ⟨_, rfl, _, _, rfl, rfl, _, rfl, ifF (decide_eq_false (by omega)) ?_⟩
    have nxr : x ≠ ra := fun z => by rw [z, hra] at hx; cases hx
    refine ⟨_, rfl, ra, _, rfl, sqI hra, for_it (walk_enum (K := K) (a := ra) (xs := us)) (fun i σ H' => ∃ v3 v4, σ = [some (.ref x), some (.int (w : Nat)), some (.ref ra), v3, v4] ∧ Ex H H') ⟨_, _, rfl, Evl.Ex.refl _⟩ (fun i σ H' _ ⟨_, _, _, e⟩ => sqI (e _ _ hra)) ?_ ?_⟩
    · rintro i v σ H2 H3 hi ⟨v3, v4, rfl, e2⟩ ⟨p, y, z, rfl, np, rfl, hy, hz⟩
      cases hy
      obtain ⟨r, q, hr, rfl, hq⟩ := (hc.ex e2).get hz
      have rl := hw r (List.mem_of_getElem? hr)
      have e3 : Ex H2 (upd H2 p (.tup [.int (i : Nat), .ref q])) := Evl.Ex.new np
      have hp : upd H2 p (.tup [.int (i : Nat), .ref q]) p = some (.tup [.int (i : Nat), .ref q]) := upd_same
      generalize upd H2 p (.tup [.int (i : Nat), .ref q]) = H4 at e3 hp ⊢
      refine ⟨_, _, rfl, sqT hp, rfl, _, _, rfl, _, _, rfl, rfl, ?_⟩
      have hq4 : SqL K H4 q (r.map V.int) ∨ SqT K H4 q (r.map V.int) := hq.imp (fun z => sqI (e3 _ _ z)) (fun z => sqT (e3 _ _ z))
      refine ⟨_, rfl, _, _, rfl, hq4, _, rfl, rfl, _, rfl, ifF (nef (by rw [List.length_map, rl])) ?_⟩
      exact ⟨_, _, rfl, e2.trans e3⟩
    · rintro σ H1 ⟨v3, v4, rfl, e1⟩
      have hx1 := e1 _ _ hx
      refine ⟨_, rfl, _, rfl, x, _, dx, [], rfl, hx1, T.cl_Table, T.na_Table_wide, (by show 0 < 1000; decide), ?_⟩
      -- the fields
      have ex2 : Exj x H (upd H1 x (.ins T.c_Table dx (putF "wide" (.int (w : Nat)) []))) := (Exj.of e1).upd
      have hx2 : upd H1 x (.ins T.c_Table dx (putF "wide" (.int (w : Nat)) [])) x = some (.ins T.c_Table dx (putF "wide" (.int (w : Nat)) [])) := upd_same
      generalize upd H1 x (.ins T.c_Table dx (putF "wide" (.int (w : Nat)) [])) = H2 at ex2 hx2 ⊢
      have ne : ∀ {y : Addr} {o : HO}, H y = some o → (∀ C d f, o ≠ .ins C d f) → y ≠ x := fun {y o} hy ho z => by
        rw [z, hx] at hy
        exact ho _ _ _ (Option.some.inj hy).symm
      have hra2 : H2 ra = some (.lst us) := ex2 _ _ nxr.symm hra
      have hc2 : CellsAt H2 us rows := ⟨hc.1, fun i v r h1 h2 => by
        obtain ⟨q, a, b⟩ := hc.2 i v r h1 h2
        refine ⟨q, a, ?_⟩
        rcases b with b | b
        · exact .inl (ex2 _ _ (ne b (fun _ _ _ z => by cases z)) b)
        · exact .inr (ex2 _ _ (ne b (fun _ _ _ z => by cases z)) b)⟩
      refine ⟨_, rfl, ra, rfl, ⟨_, sqI hra2⟩, fun D hD => lc_it (walk_list (K := K) (a := ra) (xs := us)) (fun i H' => ∃ rs, Ex H2 H' ∧ H' D = some (.lst rs) ∧ rs.length = i ∧ AllAt .tup H' rs (rows.take i)) ⟨[], Evl.Ex.new hD, upd_same, rfl, AllAt.nil⟩ (fun i H' _ ⟨_, e, _⟩ => sqI (e _ _ hra2)) ?_ ?_⟩
      · rintro i v H3 H4 hi ⟨rs, e3, d3, l3, a3⟩ ⟨rfl, hv⟩
        obtain ⟨r, q, hr, rfl, hq⟩ := (hc2.ex e3).get hv
        refine ⟨rfl, ?_⟩
        show _
        have fin : ∀ {p : Addr} {H5 : Hp}, Ex H4 H5 → H5 p = some (.tup (r.map V.int)) → ∃ acc, H5 D = some (.lst acc) ∧ acc.length < sizeLine ∧ ∃ rs, Ex H2 (upd H5 D (.lst (acc ++ [.ref p]))) ∧ upd H5 D (.lst (acc ++ [.ref p])) D = some (.lst rs) ∧ rs.length = i + 1 ∧ AllAt .tup (upd H5 D (.lst (acc ++ [.ref p]))) rs (rows.take (i + 1)) := fun {p H5} e5 h5 => by
          have d5 := e5 _ _ d3
          refine ⟨rs, d5, ?_, rs ++ [.ref p], Evl.Ex.mut (e3.trans e5) hD, upd_same, by simp [l3], ?_⟩
          · rw [l3]
            have := hc.1
            exact Nat.lt_of_lt_of_le (show i < 1000 by omega) (by decide)
          · rw [take_snoc hr]
            have up : ∀ {y : Addr} {ys : List V}, H5 y = some (.tup ys) → upd H5 D (.lst (rs ++ [.ref p])) y = some (.tup ys) := fun {y ys} hy => by
              rw [upd_ne (fun z => by rw [z, d5] at hy; cases hy)]
              exact hy
            have a5 := a3.ex e5
            exact AllAt.snoc ⟨a5.1, fun i v r h1 h2 => let ⟨q, b1, b2⟩ := a5.2 i v r h1 h2; ⟨q, b1, up b2⟩⟩ (up h5)
        refine ⟨_, rfl, q, r.map V.int, rfl, ?_⟩
        rcases hq with hq | hq
        · exact .inl ⟨sqI hq, fun p H5 np e5 h5 => fin e5 h5⟩
        · exact .inr ⟨sqT hq, fin (Evl.Ex.refl _) hq⟩
      · rintro H3 ⟨rs, e3, d3, l3, a3⟩
        have := hc.1
        rw [List.take_of_length_le (by omega)] at a3
        refine ⟨D, _, rfl, sqI d3, fun cr H4 ncr e4 h4 => ?_⟩
        have x4 : H4 x = some (.ins T.c_Table dx (putF "wide" (.int (w : Nat)) [])) := (e3.trans e4) _ _ hx2
        refine ⟨_, rfl, x, _, dx, _, rfl, x4, T.cl_Table, T.na_Table_cell_rows, (by show 1 < 1000; decide), ?_⟩
        have ncx : cr ≠ x := fun z => by rw [z, e3 _ _ hx2] at ncr; cases ncr
        refine k _ (ex2.trans ((Exj.of (e3.trans e4)).upd)) ⟨dx, cr, rs, upd_same, by rw [upd_ne ncx]; exact h4, ?_, hw, w1⟩
        have a4 := a3.ex e4
        refine ⟨a4.1, fun i v r h1 h2 => ?_⟩
        obtain ⟨q, b1, b2⟩ := a4.2 i v r h1 h2
        refine ⟨q, b1, ?_⟩
        rw [upd_ne (fun z => by rw [z, x4] at b2; cases b2)]
        exact b2
theorem AllAt.pick {o : List V → HO} {H : Hp} {vs : List V} {rows : List (List Int)} (h : AllAt o H vs rows) {p : Int} (h0 : 0 ≤ p) (h1 : p < rows.length) : ∃ q, atI vs p = some (.ref q) ∧ H q = some (o ((rows.getD p.toNat []).map V.int)) := by
  have hl : p.toNat < vs.length := by rw [h.1]; omega
  have hv : vs[p.toNat]? = some (vs[p.toNat]'hl) := List.getElem?_eq_getElem hl
  obtain ⟨r, q, hr, e1, e2⟩ := h.get hv
  rw [e1] at hv
  refine ⟨q, at_of (j := p.toNat) (by omega) hv, ?_⟩
  rw [List.getD_eq_getElem?_getD, hr]
  exact e2
theorem pick_take {rows : List (List Int)} {ps : List Int} {i : Nat} {p : Int} (h : ps[i]? = some p) : pick rows (ps.take (i + 1)) = pick rows (ps.take i) ++ [rows.getD p.toNat []] := by
  unfold pick
  rw [take_snoc h, List.map_append]
  rfl
theorem pick_mem {rows : List (List Int)} {ps : List Int} (h : ∀ p ∈ ps, 0 ≤ p ∧ p < rows.length) {r : List Int} (hr : r ∈ pick rows ps) : r ∈ rows := by
  unfold pick at hr
  obtain ⟨p, hp, rfl⟩ := List.mem_map.mp hr
  have := h p hp
  rw [List.getD_eq_getElem?_getD, List.getElem?_eq_getElem (show p.toNat < rows.length by omega)]
  exact List.getElem_mem _
def eRows (rows : List (List Int)) : PyData := eT (eT PyData.int) rows
theorem dpRows {K : PySem.W.Frag} {H : Hp} : ∀ {rs : List V} {rows : List (List Int)}, AllAt .tup H rs rows → DpAll K H rs (rows.map (eT PyData.int))
  | [], [], _ => .nil
  | [], _ :: _, h => by simp [AllAt] at h
  | _ :: _, [], h => by simp [AllAt] at h
  | v :: vs, r :: rows, h => by
    obtain ⟨q, e1, e2⟩ := h.2 0 v r rfl rfl
    subst e1
    exact .cons (dpT (sqT e2)) (dpRows ⟨by simpa using h.1, fun i v r h1 h2 => h.2 (i + 1) v r h1 h2⟩)
theorem dpLsts {K : PySem.W.Frag} {H : Hp} : ∀ {rs : List V} {rows : List (List Int)}, AllAt .lst H rs rows → DpAll K H rs (rows.map (eL PyData.int))
  | [], [], _ => .nil
  | [], _ :: _, h => by simp [AllAt] at h
  | _ :: _, [], h => by simp [AllAt] at h
  | v :: vs, r :: rows, h => by
    obtain ⟨q, e1, e2⟩ := h.2 0 v r rfl rfl
    subst e1
    exact .cons (dpL (sqI e2)) (dpLsts ⟨by simpa using h.1, fun i v r h1 h2 => h.2 (i + 1) v r h1 h2⟩)
end
end K13
set_option Elab.async false
set_option pp.maxSteps 1200
set_option linter.all false
set_option maxRecDepth 100000
set_option maxHeartbeats 4000000
namespace K13
open PySem L2 My
theorem st_eq {P : L2.St → Prop} {σ σ' : L2.St} (e : σ = σ') (h : P σ') : P σ := e ▸ h
theorem allR_rev {α : Type} {R : V → α → Prop} {vs : List V} {xs : List α} (h : AllR R vs xs) : AllR R vs.reverse xs.reverse := by
  refine ⟨by rw [List.length_reverse, List.length_reverse, h.1], fun i v x h1 h2 => ?_⟩
  have hl : i < vs.length := by
    have := (List.getElem?_eq_some_iff.mp h1).1
    rwa [List.length_reverse] at this
  rw [List.getElem?_reverse hl] at h1
  rw [List.getElem?_reverse (by rw [← h.1]; exact hl), ← h.1] at h2
  exact h.2 _ v x h1 h2
theorem allR_take {α : Type} {R : V → α → Prop} {vs : List V} {xs : List α} (h : AllR R vs xs) (n : Nat) : AllR R (vs.take n) (xs.take n) := AllR.take h n
theorem allR_drop {α : Type} {R : V → α → Prop} {vs : List V} {xs : List α} (h : AllR R vs xs) (n : Nat) : AllR R (vs.drop n) (xs.drop n) := by
  refine ⟨by simp [h.1], fun i v x h1 h2 => ?_⟩
  rw [List.getElem?_drop] at h1 h2
  exact h.2 _ v x h1 h2
def KsW (w : Int) (ks : List Ky) : Prop := Vd ks ∧ ∀ c ∈ cols ks, 0 ≤ c ∧ c < w
theorem KsW.are {w : Int} {ks : List Ky} (h : KsW w ks) : areKeys ks = true := by
  unfold areKeys
  rw [Bool.and_eq_true, List.all_eq_true]
  refine ⟨decide_eq_true h.1.nd, fun k hk => ?_⟩
  unfold okK
  rw [Bool.and_eq_true]
  refine ⟨decide_eq_true (h.2 k.1 (List.mem_map.mpr ⟨k, hk, rfl⟩)).1, decide_eq_true ?_⟩
  rcases h.1.sg k hk with z | z <;> rw [z] <;> simp
def isSrt (w : Int) (ks : List Ky) : Bool := areKeys ks && ks.all fun k => decide (k.1 < w)
theorem KsW.is {w : Int} {ks : List Ky} (h : KsW w ks) : isSrt w ks = true := by
  unfold isSrt
  rw [h.are, Bool.true_and, List.all_eq_true]
  exact fun k hk => decide_eq_true (h.2 k.1 (List.mem_map.mpr ⟨k, hk, rfl⟩)).2
section
variable {w : World} {K : PySem.W.Frag} {mg : Str → Option Value} {base : Heap}
end
end K13
set_option Elab.async false
set_option pp.maxSteps 1200
set_option linter.all false
set_option maxRecDepth 100000
set_option maxHeartbeats 4000000
namespace K13
open PySem L2 My
/-! ### the deck: so many draws are mixed at most -/
def Deck (H : Hp) (j : Addr) (n : Int) : Prop := ∃ x y z : Int, H j = some (.lst [.int x, .int y, .int z]) ∧ 0 ≤ y ∧ y < 2 ^ 140 ∧ 0 ≤ z ∧ z ≤ n
theorem Deck.ex {H H' : Hp} {j : Addr} {n : Int} (e : Ex H H') : Deck H j n → Deck H' j n
  | ⟨x, y, z, h, r⟩ => ⟨x, y, z, e _ _ h, r⟩
theorem Deck.mono {H : Hp} {j : Addr} {n m : Int} (l : n ≤ m) : Deck H j n → Deck H j m
  | ⟨x, y, z, h, a, b, c, d⟩ => ⟨x, y, z, h, a, b, c, by omega⟩
theorem Deck.at {H : Hp} {j : Addr} {n : Int} (h : Deck H j n) : ∃ ys, H j = some (.lst ys) := let ⟨_, _, _, h, _⟩ := h; ⟨_, h⟩
theorem Deck.ne {H : Hp} {j p : Addr} {n : Int} (h : Deck H j n) (e : H p = none) : p ≠ j := by
  obtain ⟨ys, ho⟩ := h.at
  exact (ne_of_none ho e).symm
theorem Deck.upd {H : Hp} {j p : Addr} {o : HO} {n : Int} (ne : p ≠ j) : Deck H j n → Deck (L2.upd H p o) j n
  | ⟨x, y, z, h, r⟩ => ⟨x, y, z, by rw [upd_ne ne.symm]; exact h, r⟩
theorem _root_.My.Exj.back {j p : Addr} {H H' : Hp} (e : Exj j H H') (n : p ≠ j) (h : H' p = none) : H p = none := by
  cases q : H p with
  | none => rfl
  | some o =>
    rw [e p o n q] at h
    cases h
def Many (w : Int) (cs : List Int) : Prop := ∀ c ∈ cs, 0 ≤ c ∧ c < w
def sp__law_open (K : PySem.W.Frag) : Sp := fun vs H Q _ => ∃ (a : Addr) (ns : List Int) (k : Int), vs = [.ref a, .int k] ∧ SqL K H a (ns.map V.int) ∧ 0 ≤ k ∧ k ≤ 100 ∧ ∀ (p : Addr) (H' : Hp), H p = none → Ex H H' → Deck H' p 0 → Q (.ref p) H'
def sp__law_draw : Sp := fun vs H Q _ => ∃ (j : Addr) (many n : Int), vs = [.ref j, .int many] ∧ Deck H j n ∧ n ≤ 1000000 ∧ 0 < many ∧ many < 2 ^ 200 ∧ ∀ (d : Int) (H' : Hp), 0 ≤ d → d < many → Exj j H H' → Deck H' j (n + 1) → Q (.int d) H'
def sp__law_keys (K : PySem.W.Frag) : Sp := fun vs H Q _ => ∃ (j : Addr) (w : Nat) (n : Int), vs = [.ref j, .int (w : Nat)] ∧ Deck H j n ∧ n ≤ 900000 ∧ w ≤ 5 ∧
  ∀ (p : Addr) (ks : List Ky) (H' : Hp), H p = none → p ≠ j → Exj j H H' → Deck H' j (n + 20) → LsK K H' p ks → ks.length ≤ w → Vd ks → Many w (cols ks) → Q (.ref p) H'
theorem at2' {α : Type} {a b c : α} {l : List α} : atI (a :: b :: c :: l) 2 = some c := atI_nat (j := 2) rfl
theorem rgo (n : Nat) (h : n ≤ 1000) : RgOk 0 (n : Int) := RgOk.of_le (by omega) (by omega) (by omega) (by omega)
theorem erase_perm {α : Type} : ∀ {ls : List α} {k : Nat} {y : α}, ls[k]? = some y → (y :: ls.eraseIdx k).Perm ls
  | a :: ls, 0, y, h => by
    cases h
    exact List.Perm.refl _
  | a :: ls, k + 1, y, h => by
    have ih := erase_perm (ls := ls) (k := k) (y := y) h
    show (y :: a :: ls.eraseIdx k).Perm (a :: ls)
    exact (List.Perm.swap a y _).trans (ih.cons a)
theorem map_erase {α β : Type} (f : α → β) : ∀ (l : List α) (k : Nat), (l.map f).eraseIdx k = (l.eraseIdx k).map f
  | [], _ => rfl
  | _ :: _, 0 => rfl
  | a :: l, k + 1 => by
    show f a :: (l.map f).eraseIdx k = f a :: (l.eraseIdx k).map f
    rw [map_erase f l k]
section
variable {w : World} {K : PySem.W.Frag} {mg : Str → Option Value} {base : Heap}
theorem ok__law_open (T : Txt K mg) : FnOk PR w K mg base CX0 1 T.a__law_open T.d__law_open ["_law_script", "_law_k"] (sp__law_open K) := by
  refine T.f__law_open.ok sc__law_open (fun vs H Q E h => ?_) (fun cdv A outer s H vs Q E hr h => ?_)
  · obtain ⟨a, ns, k, rfl, _⟩ := h
    rfl
  · obtain ⟨a, ns, n, rfl, hs, n0, n1, k⟩ := h
    refine ⟨_, (pss_cons (ps_set (i := 2) sc__law_open.nd rfl (by first | exact Or.inl rfl | exact Or.inr rfl) pe_int) (pss_cons (ps_cut (ps_if (pt_cmpR op_lt (pv 1) (pe_callB call_len_seq (by rfl) T.z_len PySem.boot_len (pa_cons (pv 0) pa_nil)) (nomark _)) (pss_one (ps_set (i := 2) sc__law_open.nd rfl (by first | exact Or.inl rfl | exact Or.inr rfl) (pe_ix ix_list (pv 0) (pv 1) (fun _ _ => rfl)))) pss_nil)) (pss_cons (ps_set (i := 3) sc__law_open.nd rfl (by first | exact Or.inl rfl | exact Or.inr rfl) (pe_op op_add (pe_op op_add (pe_op op_mod (pe_callTy call_int1 (by rfl) T.z_int (by decide +kernel) (pa_cons (pe_op op_add (pe_op op_mul pe_int (pe_callB call_abs (by rfl) T.z_abs (by decide +kernel) (pa_cons (pv 2) pa_nil))) (pe_callTy call_int1 (by rfl) T.z_int (by decide +kernel) (pa_cons (pe_cmpR op_lt (pv 2) pe_int (nomark _)) pa_nil))) pa_nil)) (pe_op op_add (pe_op op_powW pe_int pe_int) pe_int)) (pe_op op_mul pe_int (pv 1))) pe_int)) (pss_one (ps_ret (pe_lstG (pa_cons (pe_callB (call_max2 rfl) (by rfl) T.z_max (by decide +kernel) (pa_cons pe_int (pa_cons (pe_op op_sub (pv 2) (pe_op op_powW pe_int pe_int)) pa_nil))) (pa_cons (pv 3) (pa_cons pe_int pa_nil))))))))), ?_⟩
    refine ⟨fun σ H' => H' = H ∧ ∃ c : Int, σ = [some (.ref a), some (.int n), some (.int c), none], ?_, ?_⟩
    · refine ⟨_, rfl, _, rfl, _, _, rfl, .inl hs, _, _, rfl, rfl, _, rfl, ?_⟩
      refine ifB (fun c => ?_) (fun c => ⟨rfl, _, rfl⟩)
      have c' : n < ((ns.map V.int).length : Int) := of_decide_eq_true c
      rw [List.length_map] at c'
      have hx : ns[n.toNat]? = some (ns[n.toNat]'(by omega)) := List.getElem?_eq_getElem (by omega)
      exact ⟨_, rfl, _, rfl, _, _, _, _, rfl, rfl, hs, at_of (j := n.toNat) (by omega) (by rw [List.getElem?_map, hx]; rfl), rfl, _, rfl⟩
    · rintro σ H' ⟨rfl, c, rfl⟩
      refine ⟨_, rfl, _, rfl, _, _, rfl, rfl, .inl ⟨by omega, by omega⟩, _, rfl, _, _, rfl, rfl, .inr ⟨_, rfl, ?_⟩⟩
      refine ⟨_, _, rfl, rfl, .inl ⟨_, rfl, ?_⟩⟩
      have ep : (10 : Int) ^ (39 : Int).toNat = 1000000000000000000000000000000000000000 := by decide +kernel
      refine ⟨_, _, rfl, rfl, (show CPowW 10 39 by constructor <;> decide +kernel), _, _, rfl, rfl, _, _, rfl, rfl, (show (0 : Int) < 10 ^ (39 : Int).toNat + 3 by decide +kernel), _, rfl, _, _, rfl, rfl, .inl ⟨by omega, by omega⟩, _, _, rfl, rfl, _, _, rfl, rfl, ?_⟩
      refine ⟨_, rfl, _, _, rfl, rfl, (show CPowW 10 18 by constructor <;> decide +kernel), _, _, rfl, rfl, _, _, rfl, _, rfl, (by show 3 ≤ sizeLine; decide), fun p1 H1 n1 e1 h1 => ?_⟩
      refine k p1 H1 n1 e1 ⟨_, _, _, h1, ?_, ?_, Int.le_refl _, Int.le_refl _⟩
      · rw [ep]
        have := Int.emod_nonneg (2 * (if c < 0 then -c else c) + (if decide (c < 0) = true then 1 else 0)) (show (1000000000000000000000000000000000000000 + 3 : Int) ≠ 0 by decide)
        omega
      · rw [ep]
        have := Int.emod_lt_of_pos (2 * (if c < 0 then -c else c) + (if decide (c < 0) = true then 1 else 0)) (show (0 : Int) < 1000000000000000000000000000000000000000 + 3 by decide)
        omega
theorem ok__law_draw (T : Txt K mg) : FnOk PR w K mg base CX0 1 T.a__law_draw T.d__law_draw ["_law_deck", "_law_many"] sp__law_draw := by
  refine T.f__law_draw.ok sc__law_draw (fun vs H Q E h => ?_) (fun cdv A outer s H vs Q E hr h => ?_)
  · obtain ⟨j, many, n, rfl, _⟩ := h
    rfl
  · obtain ⟨j, many, n, rfl, ⟨x, y, z, hj, y0, y1, z0, z1⟩, hn, m0, m1, k⟩ := h
    refine ⟨_, (pss_cons (ps_if (pt_cmpR op_gt (pe_ix ix_list (pv 0) pe_int (fun _ _ => rfl)) pe_int (nomark _)) (pss_cons (ps_set (i := 2) sc__law_draw.nd rfl (by first | exact Or.inl rfl | exact Or.inr rfl) (pe_op op_mod (pe_callTy call_int1 (by rfl) T.z_int (by decide +kernel) (pa_cons (pe_ix ix_list (pv 0) pe_int (fun _ _ => rfl)) pa_nil)) (pv 1))) (pss_cons (ps_asg (pe_op op_fdivW (pe_ix ix_list (pv 0) pe_int (fun _ _ => rfl)) (pv 1)) (pg_sub (pv 0) pe_int set_list)) (pss_one (ps_ret (pv 2))))) pss_nil) (pss_cons (ps_asg (pe_op op_add (pe_ix ix_list (pv 0) pe_int (fun _ _ => rfl)) pe_int) (pg_sub (pv 0) pe_int set_list)) (pss_cons (ps_set (i := 3) sc__law_draw.nd rfl (by first | exact Or.inl rfl | exact Or.inr rfl) (pe_op op_mod (pe_callTy call_int1 (by rfl) T.z_int (by decide +kernel) (pa_cons (pe_op op_add (pe_op op_mul (pe_ix ix_list (pv 0) pe_int (fun _ _ => rfl)) (pe_op op_add pe_int (pe_op op_mul pe_int (pe_ix ix_list (pv 0) pe_int (fun _ _ => rfl))))) (pe_op op_mul (pe_op op_mul pe_int (pe_ix ix_list (pv 0) pe_int (fun _ _ => rfl))) (pe_ix ix_list (pv 0) pe_int (fun _ _ => rfl)))) pa_nil)) pe_int)) (pss_cons (ps_set (i := 3) sc__law_draw.nd rfl (by first | exact Or.inl rfl | exact Or.inr rfl) (pe_op op_mod (pe_callTy call_int1 (by rfl) T.z_int (by decide +kernel) (pa_cons (pe_op op_add (pe_op op_add (pe_op op_mul (pv 3) (pv 3)) (pe_op op_mul pe_int (pe_ix ix_list (pv 0) pe_int (fun _ _ => rfl)))) (pe_ix ix_list (pv 0) pe_int (fun _ _ => rfl))) pa_nil)) pe_int)) (pss_cons (ps_set (i := 3) sc__law_draw.nd rfl (by first | exact Or.inl rfl | exact Or.inr rfl) (pe_op op_mod (pe_callTy call_int1 (by rfl) T.z_int (by decide +kernel) (pa_cons (pe_op op_add (pe_op op_mul (pe_op op_mul (pv 3) (pv 3)) (pv 3)) (pe_op op_mul pe_int (pe_ix ix_list (pv 0) pe_int (fun _ _ => rfl)))) pa_nil)) pe_int)) (pss_one (ps_ret (pe_op op_mod (pe_callTy call_int1 (by rfl) T.z_int (by decide +kernel) (pa_cons (pe_op op_fdivW (pv 3) pe_int) pa_nil)) (pv 1))))))))), ?_⟩
    have sq : ∀ {H' : Hp} {l : List V}, H' j = some (.lst l) → SqL K H' j l := fun h => sqI h
    have m2 : many.natAbs < 2 ^ 200 := by omega
    refine ⟨_, rfl, _, _, _, _, rfl, rfl, sq hj, at0, _, _, rfl, rfl, _, rfl, ?_⟩
    refine ite2 (fun c => ?_) (fun c => ?_)
    · refine ⟨_, rfl, _, _, _, _, rfl, rfl, sq hj, at0, .inl ⟨_, rfl, ?_⟩⟩
      refine ⟨_, rfl, _, _, rfl, rfl, m0, ?_⟩
      refine ⟨_, rfl, _, _, _, _, rfl, rfl, sq hj, at0, _, rfl, _, _, rfl, rfl, wide_div m0 m2 (by decide) (by decide), _, rfl, _, _, _, _, rfl, rfl, hj, (show _ = some 0 from rfl), ?_⟩
      refine ⟨_, rfl, ?_⟩
      exact k _ _ (Int.emod_nonneg _ (by omega)) (Int.emod_lt_of_pos _ m0) (Exj.refl _ _).upd ⟨_, y, z, upd_same, y0, y1, z0, by omega⟩
    · refine ⟨_, rfl, _, _, _, _, rfl, rfl, sq hj, at2', _, _, rfl, rfl, _, rfl, _, _, _, _, rfl, rfl, hj, (show _ = some 2 from rfl), ?_⟩
      have hj1 : upd H j (.lst ([V.int x, .int y, .int z].set 2 (.int (z + 1)))) j = some (.lst [.int x, .int y, .int (z + 1)]) := upd_same
      have ej : Exj j H (upd H j (.lst ([V.int x, .int y, .int z].set 2 (.int (z + 1))))) := (Exj.refl _ _).upd
      generalize upd H j (.lst ([V.int x, .int y, .int z].set 2 (.int (z + 1)))) = H1 at hj1 ej ⊢
      refine ⟨_, rfl, _, _, _, _, rfl, rfl, sq hj1, at1, _, rfl, _, _, _, _, rfl, rfl, sq hj1, at2', _, _, rfl, rfl, .inl ⟨by decide, by decide⟩, _, _, rfl, rfl, _, _, rfl, rfl, .inr ⟨by omega, by omega⟩, _, rfl, _, _, _, _, rfl, rfl, sq hj1, at2', _, _, rfl, rfl, .inl ⟨by decide, by decide⟩, _, rfl, _, _, _, _, rfl, rfl, sq hj1, at2', _, _, rfl, rfl, .inl ⟨by omega, by omega⟩, _, _, rfl, rfl, .inl ⟨_, rfl, ?_⟩⟩
      refine ⟨_, _, rfl, rfl, (show (0 : Int) < 1000000000000000003 by decide), ?_⟩
      have b1 : ∀ {u v : Int}, CMul (v % 1000000000000000003) u := fun {u v} => .inl ⟨by omega, by omega⟩
      refine ⟨_, rfl, _, rfl, _, _, rfl, rfl, b1, _, rfl, _, _, _, _, rfl, rfl, sq hj1, at2', _, _, rfl, rfl, .inl ⟨by decide, by decide⟩, _, _, rfl, rfl, _, rfl, _, _, _, _, rfl, rfl, sq hj1, at1, _, _, rfl, rfl, .inl ⟨_, rfl, ?_⟩⟩
      refine ⟨_, _, rfl, rfl, (show (0 : Int) < 2305843009213693951 by decide), ?_⟩
      have b2 : ∀ {u v : Int}, CMul (v % 2305843009213693951) u := fun {u v} => .inl ⟨by omega, by omega⟩
      have b3 : ∀ {u v : Int}, CMul u (v % 2305843009213693951) := fun {u v} => .inr ⟨by omega, by omega⟩
      refine ⟨_, rfl, _, rfl, _, _, rfl, rfl, b2, _, rfl, _, _, rfl, rfl, b3, _, rfl, _, _, _, _, rfl, rfl, sq hj1, at2', _, _, rfl, rfl, .inl ⟨by decide, by decide⟩, _, _, rfl, rfl, .inl ⟨_, rfl, ?_⟩⟩
      refine ⟨_, _, rfl, rfl, (show (0 : Int) < 1000000000000000009 by decide), ?_⟩
      refine ⟨_, rfl, _, _, rfl, rfl, wide_div (b := 20) (by decide) (by decide) (by decide) (by decide), .inl ⟨_, rfl, ?_⟩⟩
      refine ⟨_, rfl, _, _, rfl, rfl, m0, ?_⟩
      exact k _ _ (Int.emod_nonneg _ (by omega)) (Int.emod_lt_of_pos _ m0) ej ⟨x, y, z + 1, hj1, y0, y1, by omega, by omega⟩
theorem ok__law_keys (T : Txt K mg) : FnOk PR w K mg base CX0 2 T.a__law_keys T.d__law_keys ["_law_deck", "_law_width"] (sp__law_keys K) := by
  refine T.f__law_keys.ok sc__law_keys (fun vs H Q E h => ?_) (fun cdv A outer s H vs Q E hr h => ?_)
  · obtain ⟨j, w, n, rfl, _⟩ := h
    rfl
  · obtain ⟨j, w, n, rfl, hj, hn, w1, k⟩ := h
    refine ⟨_, (pss_cons (ps_set (i := 2) sc__law_keys.nd rfl (by first | exact Or.inl rfl | exact Or.inr rfl) (pe_listRgG (by rfl) (by rfl) T.z_list (prg_1 (by rfl) T.z_range (pv 1)))) (pss_cons (ps_set (i := 3) sc__law_keys.nd rfl (by first | exact Or.inl rfl | exact Or.inr rfl) (pe_lstG pa_nil)) (pss_cons (ps_for PassesOwn.never rfl (pi_range1 (by rfl) T.z_range (pa_cons (pe_call (ok__law_draw T) (hr.mono (by decide)) (by rfl) T.g__law_draw T.f__law_draw.kp (b__law_draw T) .nil pass0 (pa_cons (pv 0) (pa_cons (pe_op op_add (pv 1) pe_int) pa_nil))) pa_nil)) (pg_name (i := 4) sc__law_keys.nd rfl (by first | exact Or.inl rfl | exact Or.inr rfl)) (pss_one (ps_expr (pe_bm PySem.F.plainAttrs_list PySem.F.slot_list_append PySem.F.type_list_append mt_append (pv 3) (pa_cons (pe_tupG (pa_cons (pe_bm PySem.F.plainAttrs_list PySem.F.slot_list_pop PySem.F.type_list_pop mt_popAt (pv 2) (pa_cons (pe_call (ok__law_draw T) (hr.mono (by decide)) (by rfl) T.g__law_draw T.f__law_draw.kp (b__law_draw T) .nil pass0 (pa_cons (pv 0) (pa_cons (pe_callB call_len_seq (by rfl) T.z_len PySem.boot_len (pa_cons (pv 2) pa_nil)) pa_nil))) pa_nil)) (pa_cons (pe_ix ix_list (pe_lstG (pa_cons pe_int (pa_cons (pe_un un_neg pe_int) pa_nil))) (pe_call (ok__law_draw T) (hr.mono (by decide)) (by rfl) T.g__law_draw T.f__law_draw.kp (b__law_draw T) .nil pass0 (pa_cons (pv 0) (pa_cons pe_int pa_nil))) (fun _ _ => rfl)) pa_nil))) pa_nil))))) (pss_one (ps_ret (pv 3)))))), ?_⟩
    refine ⟨_, rfl, _, rfl, rgo w (by omega), fun L H1 nL e1 hL => ?_⟩
    have hL : H1 L = some (.lst ((upN w).map V.int)) := by rw [hL, rgV_upN]
    refine ⟨(by show 0 ≤ sizeLine; decide), fun F H2 nF e2 hF => ?_⟩
    have nLj := hj.ne nL
    have nFj := (hj.ex e1).ne nF
    have nFL : F ≠ L := (ne_of_none hL nF).symm
    have e02 := e1.trans e2
    refine ⟨_, rfl, _, rfl, _, _, rfl, rfl, j, _, n, rfl, hj.ex e02, by omega, by omega, by omega, fun d H3 d0 d1 e3 j3 => ?_⟩
    refine ⟨_, rfl, by omega, by omega, for_range (lo := 0) (n := d.toNat) (fun i σ H' => ∃ (v4 : Option V) (us : List V) (ks : List Ky) (ls : List Int), σ = [some (.ref j), some (.int (w : Nat)), some (.ref L), some (.ref F), v4] ∧ Exj j H H' ∧ Deck H' j (n + 1 + 2 * i) ∧ H' F = some (.lst us) ∧ AllR (fun v k => KyR K H' v k ∧ v ≠ .ref F ∧ v ≠ .ref L ∧ v ≠ .ref j) us ks ∧ H' L = some (.lst (ls.map V.int)) ∧ ks.length = i ∧ (cols ks ++ ls).Perm (upN w) ∧ ∀ k ∈ ks, k.2 = 1 ∨ k.2 = -1) ⟨_, [], [], _, rfl, (Exj.of e02).trans e3, j3.mono (by omega), e3 _ _ nFj hF, AllR.nil, e3 _ _ nLj (e2 _ _ hL), rfl, List.Perm.refl _, fun k hk => by cases hk⟩ ?_ ?_⟩
    · rintro i σ H4 hi ⟨v4, us, ks, ls, rfl, e4, j4, f4, a4, l4, kl, pm, sg⟩
      have ul := a4.1
      have hlen : ks.length + ls.length = w := by
        have := pm.length_eq
        simpa [cols, upN_len] using this
      refine ⟨_, rfl, .inl ⟨rfl, _, sqI f4⟩, _, rfl, .inl ⟨rfl, _, sqI l4⟩, _, rfl, _, rfl, _, _, rfl, .inl (sqI l4), j, _, _, rfl, j4, by omega, ?_, ?_, fun m H5 m0 m1 e5 j5 => ?_⟩
      · rw [List.length_map]
        omega
      · rw [List.length_map]
        omega
      rw [List.length_map] at m1
      have l5 := e5 _ _ nLj l4
      have f5 := e5 _ _ nFj f4
      have hy : ls[m.toNat]? = some (ls[m.toNat]'(by omega)) := List.getElem?_eq_getElem (by omega)
      refine ⟨_, _, _, m.toNat, _, rfl, rfl, l5, by omega, by omega, ?_, by rw [List.getElem?_map, hy]; rfl, ?_⟩
      · rw [List.length_map]
        exact seqIndex_of m0 m1
      have x5 : ∀ b o, b ≠ L → H5 b = some o → L2.upd H5 L (.lst ((ls.map V.int).eraseIdx m.toNat)) b = some o := fun b o nb h => by rw [upd_ne nb]; exact h
      have j5' := j5.upd (o := .lst ((ls.map V.int).eraseIdx m.toNat)) nLj
      have l5' : L2.upd H5 L (.lst ((ls.map V.int).eraseIdx m.toNat)) L = some (.lst ((ls.map V.int).eraseIdx m.toNat)) := upd_same
      generalize L2.upd H5 L (.lst ((ls.map V.int).eraseIdx m.toNat)) = H6 at x5 j5' l5' ⊢
      refine ⟨_, rfl, (by show 2 ≤ sizeLine; decide), fun p7 H7 n7 e7 h7 => ?_⟩
      have n7j := j5'.ne n7
      refine ⟨_, rfl, j, _, _, rfl, j5'.ex e7, by omega, by decide, by decide, fun g H8 g0 g1 e8 j8 => ?_⟩
      have ea : ∃ s : Int, atI [V.int 1, V.int (-1)] g = some (.int s) ∧ (s = 1 ∨ s = -1) := by
        rcases (show g = 0 ∨ g = 1 by omega) with z | z
        · exact ⟨1, by rw [z]; exact at0, .inl rfl⟩
        · exact ⟨-1, by rw [z]; exact at1, .inr rfl⟩
      obtain ⟨s, ea, hs⟩ := ea
      refine ⟨_, _, _, _, rfl, rfl, sqI (e8 _ _ n7j h7), ea, (by show 2 ≤ sizeLine; decide), fun p9 H9 n9 e9 h9 => ?_⟩
      have f9 : H9 F = some (.lst us) := e9 _ _ (e8 _ _ nFj (e7 _ _ (x5 _ _ nFL f5)))
      have n9j := j8.ne n9
      have n9F : p9 ≠ F := fun z => by rw [z, e8 _ _ nFj (e7 _ _ (x5 _ _ nFL f5))] at n9; cases n9
      have n9L : p9 ≠ L := fun z => by rw [z, e8 _ _ nLj (e7 _ _ l5')] at n9; cases n9
      refine ⟨_, _, _, rfl, rfl, f9, ?_, ?_⟩
      · rw [ul, kl]
        exact Nat.lt_of_lt_of_le (show i < 100 by omega) (by decide)
      have go : ∀ b o, b ≠ j → b ≠ L → b ≠ F → H4 b = some o → L2.upd H9 F (.lst (us ++ [.ref p9])) b = some o := fun b o nb nL' nF' h => by
        rw [upd_ne nF']
        exact e9 _ _ (e8 _ _ nb (e7 _ _ (x5 _ _ nL' (e5 _ _ nb h))))
      refine ⟨_, us ++ [.ref p9], ks ++ [(ls[m.toNat]'(by omega), s)], ls.eraseIdx m.toNat, rfl, ?_, ((j8.ex e9).mono (by omega)).upd nFj, upd_same, ?_, ?_, by simp [kl], ?_, fun x hx => ?_⟩
      · intro b o nb hb
        have hb4 := e4 _ _ nb hb
        exact go b o nb (ne_of_none hb nL) (ne_of_none (e1 _ _ hb) nF) hb4
      · refine AllR.snoc (a4.mono fun v x r => ?_) ⟨⟨p9, rfl, sqT ?_⟩, ?_, ?_, ?_⟩
        · obtain ⟨⟨q, rfl, hq⟩, r2, r3, r4⟩ := r
          refine ⟨⟨q, rfl, ?_⟩, r2, r3, r4⟩
          have nj : q ≠ j := fun z => r4 (by rw [z])
          have nL' : q ≠ L := fun z => r3 (by rw [z])
          have nF' : q ≠ F := fun z => r2 (by rw [z])
          rcases hq with (h | ⟨o, h⟩) | h
          · exact .inl (.inl (go _ _ nj nL' nF' h))
          · exact .inl (.inr ⟨o, go _ _ nj nL' nF' h⟩)
          · exact .inr h
        · rw [upd_ne n9F]
          exact h9
        · intro z; cases z; exact n9F rfl
        · intro z; cases z; exact n9L rfl
        · intro z; cases z; exact n9j rfl
      · rw [upd_ne nFL.symm, ← map_erase]
        exact e9 _ _ (e8 _ _ nLj (e7 _ _ l5'))
      · have ec : cols (ks ++ [(ls[m.toNat]'(by omega), s)]) = cols ks ++ [ls[m.toNat]'(by omega)] := by simp [cols]
        rw [ec, List.append_assoc]
        exact (List.Perm.append_left (cols ks) (erase_perm hy)).trans pm
      · rcases List.mem_append.mp hx with z | z
        · exact sg x z
        · rw [List.mem_singleton.mp z]; exact hs
    · rintro σ H4 ⟨v4, us, ks, ls, rfl, e4, j4, f4, a4, l4, kl, pm, sg⟩
      have nd : (cols ks).Nodup := by
        have : (upN w).Nodup := by
          unfold upN
          rw [List.nodup_iff_pairwise_ne, List.pairwise_map]
          exact (List.nodup_iff_pairwise_ne.mp List.nodup_range).imp fun h e => h (by omega)
        exact (List.nodup_append.mp (pm.nodup_iff.mpr this)).1
      have mm : Many w (cols ks) := fun c hc => by
        obtain ⟨i, hi, rfl⟩ := List.mem_map.mp (pm.mem_iff.mp (List.mem_append_left _ hc))
        have := List.mem_range.mp hi
        omega
      exact ⟨_, rfl, k F ks H4 (none_of e1 nF) nFj e4 (j4.mono (by omega)) ⟨us, f4, a4.mono fun v x r => r.1⟩ (by omega) ⟨nd, sg⟩ mm⟩
end
end K13
set_option Elab.async false
set_option pp.maxSteps 1200
set_option linter.all false
set_option maxRecDepth 100000
set_option maxHeartbeats 4000000
namespace K13
open PySem L2 My
def LsR (K : PySem.W.Frag) (H : Hp) (v : V) (ks : List Ky) : Prop := ∃ p, v = .ref p ∧ LsK K H p ks
def LsX (K : PySem.W.Frag) (j : Addr) (H : Hp) (v : V) (ks : List Ky) : Prop := ∃ p, v = .ref p ∧ p ≠ j ∧ LsK K H p ks
theorem LsR.ex {K : PySem.W.Frag} {H H' : Hp} {v : V} {ks : List Ky} (h : LsR K H v ks) (e : Ex H H') : LsR K H' v ks := let ⟨p, a, b⟩ := h; ⟨p, a, b.ex e⟩
theorem LsX.exj {K : PySem.W.Frag} {H H' : Hp} {j : Addr} {ys : List V} {v : V} {ks : List Ky} (h : LsX K j H v ks) (e : Exj j H H') (hj : H j = some (.lst ys)) : LsX K j H' v ks := let ⟨p, a, n, b⟩ := h; ⟨p, a, n, b.exj e n hj⟩
theorem LsX.r {K : PySem.W.Frag} {H : Hp} {j : Addr} {v : V} {ks : List Ky} (h : LsX K j H v ks) : LsR K H v ks := let ⟨p, a, _, b⟩ := h; ⟨p, a, b⟩
theorem LsR.x {K : PySem.W.Frag} {H H' : Hp} {j : Addr} {v : V} {ks : List Ky} (h : LsR K H v ks) (n : H j = none) (e : Ex H H') : LsX K j H' v ks := by
  obtain ⟨p, rfl, us, h1, h2⟩ := h
  exact ⟨p, rfl, (fun z => by rw [z, n] at h1; cases h1), LsK.ex ⟨us, h1, h2⟩ e⟩
def sp__law_says : Sp := fun vs H Q _ => ∃ (b c : Bool), vs = [.bl b, .bl c] ∧ Q (.bl (decide (b = c))) H
def sp__law_every (K : PySem.W.Frag) : Sp := fun vs H Q _ => ∃ (w : Nat), vs = [.int (w : Nat)] ∧ 1 ≤ w ∧ w ≤ 3 ∧ ∀ p H' us, Ex H H' → H' p = some (.lst us) → AllR (LsR K H') us (everyL w) → Q (.ref p) H'
theorem grow {K : PySem.W.Frag} {K1 K4 : Hp} {G p t : Addr} {gs uk : List V} {xs : List (List Ky)} {ks : List Ky} {c s : Int} (e : Ex K1 K4) (g1 : K1 G = some (.lst gs)) (a1 : AllR (LsX K G K1) gs xs) (hk : KsAt K K1 uk ks) (np : p ≠ G) (h8 : K4 p = some (.lst (uk ++ [.ref t]))) (ht : K4 t = some (.tup [.int c, .int s])) :
    Exj G K1 (upd K4 G (.lst (gs ++ [.ref p]))) ∧ AllR (LsX K G (upd K4 G (.lst (gs ++ [.ref p])))) (gs ++ [.ref p]) (xs ++ [ks ++ [(c, s)]]) := by
  have ej : Exj G K1 (upd K4 G (.lst (gs ++ [.ref p]))) := (Exj.of e).upd
  have nt : t ≠ G := fun z => by rw [z, e _ _ g1] at ht; cases ht
  refine ⟨ej, AllR.snoc (a1.mono fun v x r => r.exj ej g1) ⟨p, rfl, np, uk ++ [.ref t], ?_, (hk.exj ej g1).append (AllR.one ⟨t, rfl, sqT ?_⟩)⟩⟩
  · rw [upd_ne np]; exact h8
  · rw [upd_ne nt]; exact ht
section
variable {w : World} {K : PySem.W.Frag} {mg : Str → Option Value} {base : Heap}
theorem ok__law_says (T : Txt K mg) : FnOk PR w K mg base CX0 1 T.a__law_says T.d__law_says ["_law_found", "_law_due"] sp__law_says := by
  refine T.f__law_says.ok sc__law_says (fun vs H Q E h => ?_) (fun cdv A outer s H vs Q E hr h => ?_)
  · obtain ⟨b, c, rfl, _⟩ := h
    rfl
  · obtain ⟨b, c, rfl, k⟩ := h
    refine ⟨_, (pss_one (ps_ret (pe_and (pe_callB call_isi (by rfl) T.z_isinstance (by decide +kernel) (pa_cons (pv 0) (pa_cons (pe_bltn (v := .ty "bool") (by rfl) T.z_bool (by decide +kernel) rfl) pa_nil))) (pe_one (pe_cmpR op_eq (pv 0) (pv 1) (nomark _)))))), ?_⟩
    refine ⟨_, rfl, _, _, _, _, true, rfl, .ty _, .base (.bl _), kit_ty (r := true) (by decide +kernel), _, rfl, iteT ?_⟩
    refine ⟨_, rfl, _, rfl, rfl, ?_⟩
    rw [decBl]
    exact k
theorem ok__law_every (T : Txt K mg) : FnOk PR w K mg base CX0 1 T.a__law_every T.d__law_every ["_law_width"] (sp__law_every K) := by
  refine T.f__law_every.ok sc__law_every (fun vs H Q E h => ?_) (fun cdv A outer s H vs Q E hr h => ?_)
  · obtain ⟨w, rfl, _⟩ := h
    rfl
  · obtain ⟨w, rfl, w1, w3, k⟩ := h
    refine ⟨_, (pss_cons (ps_set (i := 1) sc__law_every.nd rfl (by first | exact Or.inl rfl | exact Or.inr rfl) (pe_lstG (pa_cons (pe_lstG pa_nil) pa_nil))) (pss_cons (ps_set (i := 2) sc__law_every.nd rfl (by first | exact Or.inl rfl | exact Or.inr rfl) (pe_lstG (pa_cons (pe_lstG pa_nil) pa_nil))) (pss_cons (ps_for PassesOwn.never rfl (pi_range1 (by rfl) T.z_range (pa_cons (pv 0) pa_nil)) (pg_name (i := 3) sc__law_every.nd rfl (by first | exact Or.inl rfl | exact Or.inr rfl)) (pss_cons (ps_set (i := 4) sc__law_every.nd rfl (by first | exact Or.inl rfl | exact Or.inr rfl) (pe_lstG pa_nil)) (pss_cons (ps_for PassesOwn.never rfl (pi_list (pv 2)) (pg_name (i := 5) sc__law_every.nd rfl (by first | exact Or.inl rfl | exact Or.inr rfl)) (pss_cons (ps_set (i := 6) sc__law_every.nd rfl (by first | exact Or.inl rfl | exact Or.inr rfl) (pe_lc (own := [("_law_column", 7), ("_law_sign", 8)]) (g := (gTup K 2 (gCons (gName 7) (gCons (gName 8) gNil)))) (by rfl) sc__law_every.nd (pi_list (pv 5)) (blkOk_by (own := [("_law_column", 7), ("_law_sign", 8)]) (N := ["_law_width", "_law_found", "_law_layer", "_law_turn", "_law_longer", "_law_keys_here", "_law_used", "_law_column", "_law_sign", "_law_one"]) (sc := (defScope s__law_every)) (by decide +kernel)) (fun _ _ _ _ _ => (pg_tup rfl (pgs_cons (pg_name (i := 7) sc__law_every.nd rfl (by first | exact Or.inl rfl | exact Or.inr rfl)) (pgs_cons (pg_name (i := 8) sc__law_every.nd rfl (by first | exact Or.inl rfl | exact Or.inr rfl)) pgs_nil)))) (fun _ _ _ _ _ => pts_nil) (fun _ _ _ _ _ => (pv 7)))) (pss_one (ps_for PassesOwn.never rfl (pi_list (pe_lc (own := [("_law_one", 9)]) (g := gName 9) (by rfl) sc__law_every.nd (pi_range1 (by rfl) T.z_range (pa_cons (pv 0) pa_nil)) (blkOk_by (own := [("_law_one", 9)]) (N := ["_law_width", "_law_found", "_law_layer", "_law_turn", "_law_longer", "_law_keys_here", "_law_used", "_law_column", "_law_sign", "_law_one"]) (sc := (defScope s__law_every)) (by decide +kernel)) (fun _ _ _ _ _ => (pg_name (i := 9) sc__law_every.nd rfl (by first | exact Or.inl rfl | exact Or.inr rfl))) (fun _ _ _ _ _ => (pts_one (pt_cmpR (opK (r := fun K => rIn K true) (K := K) (by rfl) op_notIn_seq) (pv 9) (pv 6) (by rfl)))) (fun _ _ _ _ _ => (pv 9)))) (pg_name (i := 7) sc__law_every.nd rfl (by first | exact Or.inl rfl | exact Or.inr rfl)) (pss_cons (ps_expr (pe_bm PySem.F.plainAttrs_list PySem.F.slot_list_append PySem.F.type_list_append mt_append (pv 4) (pa_cons (pe_op op_catG (pv 5) (pe_lstG (pa_cons (pe_tupG (pa_cons (pv 7) (pa_cons (pe_un un_neg pe_int) pa_nil))) pa_nil))) pa_nil))) (pss_one (ps_expr (pe_bm PySem.F.plainAttrs_list PySem.F.slot_list_append PySem.F.type_list_append mt_append (pv 4) (pa_cons (pe_op op_catG (pv 5) (pe_lstG (pa_cons (pe_tupG (pa_cons (pv 7) (pa_cons pe_int pa_nil))) pa_nil))) pa_nil))))))))) (pss_cons (ps_set (i := 1) sc__law_every.nd rfl (by first | exact Or.inl rfl | exact Or.inr rfl) (pe_op op_catG (pv 1) (pv 4))) (pss_one (ps_set (i := 2) sc__law_every.nd rfl (by first | exact Or.inl rfl | exact Or.inr rfl) (pe_callTy call_listG (by rfl) T.z_list (by decide +kernel) (pa_cons (pv 4) pa_nil)))))))) (pss_one (ps_ret (pv 1)))))), ?_⟩
    refine ⟨(by show 0 ≤ sizeLine; decide), fun p1 H1 n1 e1 h1 => ?_⟩
    refine ⟨(by show 1 ≤ sizeLine; decide), fun F0 H2 n2 e2 h2 => ?_⟩
    refine ⟨(by show 0 ≤ sizeLine; decide), fun p3 H3 n3 e3 h3 => ?_⟩
    refine ⟨(by show 1 ≤ sizeLine; decide), fun L0 H4 n4 e4 h4 => ?_⟩
    have e34 := e3.trans e4
    have e14 := e2.trans e34
    refine ⟨_, rfl, _, rfl, by omega, by omega, for_range (lo := 0) (n := ((w : Nat) : Int).toNat) (fun i σ H' => ∃ (F L : Addr) (us ls : List V) (v3 v4 v5 v6 v7 v8 v9 : Option V), σ = [some (.int (w : Nat)), some (.ref F), some (.ref L), v3, v4, v5, v6, v7, v8, v9] ∧ Ex H H' ∧ H' F = some (.lst us) ∧ H' L = some (.lst ls) ∧ AllR (LsR K H') us (everyN w i) ∧ AllR (LsR K H') ls (layerL w i)) ⟨F0, L0, [.ref p1], [.ref p3], _, _, _, _, _, _, _, rfl, e1.trans e14, e34 _ _ h2, h4, ?_, AllR.one ⟨p3, rfl, [], e4 _ _ h3, AllR.nil⟩⟩ ?_ ?_⟩
    · have : everyN w 0 = [[]] := by simp [everyN, List.range_succ, layerL]
      rw [this]
      exact AllR.one ⟨p1, rfl, [], e14 _ _ h1, AllR.nil⟩
    · rintro i σ H5 hi ⟨F, L, us, ls, v3, v4, v5, v6, v7, v8, v9, rfl, e5, hF, hL, aF, aL⟩
      refine ⟨(by show 0 ≤ sizeLine; decide), fun G H6 nG e6 hG => ?_⟩
      have lF := aF.1
      have lL := aL.1
      have b1 := every_le w3 i (by omega)
      have b2 := layer_le (w := w) (n := i) w3 (by omega)
      have nLG : L ≠ G := ne_of_none hL nG
      have nFG : F ≠ G := ne_of_none hF nG
      have aF6 : AllR (LsX K G H6) us (everyN w i) := aF.mono fun v x r => r.x nG e6
      have aL6 : AllR (LsX K G H6) ls (layerL w i) := aL.mono fun v x r => r.x nG e6
      refine ⟨_, rfl, L, rfl, ⟨_, sqI (e6 _ _ hL)⟩, for_it (walk_list (K := K) (a := L) (xs := ls)) (fun i2 σ H' => ∃ (gs : List V) (w3 w5 w6 w7 w8 w9 : Option V), σ = [some (.int (w : Nat)), some (.ref F), some (.ref L), w3, some (.ref G), w5, w6, w7, w8, w9] ∧ Exj G H6 H' ∧ H' G = some (.lst gs) ∧ AllR (LsX K G H') gs (((layerL w i).take i2).flatMap (nextL w)) ∧ gs.length ≤ 6 * i2) ⟨[], _, _, _, _, _, _, rfl, Exj.refl _ _, hG, AllR.nil, by show 0 ≤ _; omega⟩ ?_ ?_ ?_⟩
      · rintro i2 σ H' _ ⟨gs, w3, w5, w6, w7, w8, w9, _, e, _⟩
        exact sqI (e _ _ nLG (e6 _ _ hL))
      · rintro i2 v σ HX H7 hi2 ⟨gs, u3, u5, u6, u7, u8, u9, rfl, e7, g7, a7, l7⟩ ⟨rfl, hv⟩
        obtain ⟨ks, hks, r⟩ := aL6.get hv
        obtain ⟨q, rfl, nq, hq⟩ := r.exj e7 hG
        obtain ⟨uk, hu, hk⟩ := id hq
        have ul := hk.1
        have ksl := layer_size w i ks (List.mem_of_getElem? hks)
        refine ⟨_, rfl, q, rfl, ⟨_, sqI hu⟩, fun U nU => lc_mapG (K := K) (a := q) (ys := (cols ks).map V.int) (sqI hu) nU (by simp [cols, ul]) ?_ ?_ ?_⟩
        · have := ksl
          exact Nat.le_trans (show _ ≤ 3 by omega) (by decide)
        · intro i' x y H' e' hx hy N Z kN
          obtain ⟨k', hki, q', rfl, hq'⟩ := hk.get hx
          have hy' : (cols ks)[i']? = some k'.1 := by unfold cols; rw [List.getElem?_map, hki]; rfl
          rw [List.getElem?_map, hy'] at hy
          cases hy
          refine ⟨_, _, rfl, Evl.ex_t e' hq', rfl, _, _, rfl, _, _, rfl, rfl, rfl, ?_⟩
          show _
          exact ⟨_, rfl, kN H' (Evl.Ex.refl _)⟩
        intro H8 e8 d8
        refine ⟨_, rfl, _, rfl, by omega, by omega, fun C nC => lc_filtR (p := fun c => !decide (c ∈ cols ks)) nC (show w ≤ 1000 by omega) (fun x => rfl) ?_ ?_ ?_⟩
        · intro c H' hc e' Z kZ
          refine ⟨_, rfl, _, rfl, _, _, rfl, .inl (sqI (e' _ _ d8)), rfl, flatI _, _, rfl, ?_⟩
          rw [inV_int]
          exact kZ H' (Evl.Ex.refl _)
        · intro v H' N kN
          exact ⟨_, rfl, kN⟩
        intro H9 e9 d9
        have d9 : H9 C = some (.lst ((free w ks).map V.int)) := d9
        have e79 := e8.trans e9
        have nCG : C ≠ G := (ne_of_none (e8 _ _ g7) nC).symm
        have g9 := e79 _ _ g7
        have y9 : Exj G H6 H9 := e7.trans (Exj.of e79)
        have a9 : AllR (LsX K G H9) gs (((layerL w i).take i2).flatMap (nextL w)) := a7.mono fun v x r => r.exj (Exj.of e79) g7
        have fl := free_len w ks
        have i2l : i2 ≤ 216 := by omega
        refine ⟨C, rfl, ⟨_, sqI d9⟩, for_it (walk_list (K := K) (a := C) (xs := (free w ks).map V.int)) (fun i3 σ H' => ∃ (gs : List V) (w7 w8 w9 : Option V), σ = [some (.int (w : Nat)), some (.ref F), some (.ref L), u3, some (.ref G), some (.ref q), some (.ref U), w7, w8, w9] ∧ Exj G H9 H' ∧ H' G = some (.lst gs) ∧ AllR (LsX K G H') gs (((layerL w i).take i2).flatMap (nextL w) ++ ((free w ks).take i3).flatMap (both ks)) ∧ gs.length ≤ 6 * i2 + 2 * i3) ⟨gs, _, _, _, rfl, Exj.refl _ _, g9, ?_, by omega⟩ ?_ ?_ ?_⟩
        · show AllR _ gs (_ ++ [])
          rw [List.append_nil]
          exact a9
        · rintro i3 σ H' _ ⟨gs, w7, w8, w9, _, e, _⟩
          exact sqI (e _ _ nCG d9)
        · rintro i3 v σ HX K1 hi3 ⟨gs, w7, w8, w9, rfl, f1, g1, a1, l1⟩ ⟨rfl, hv⟩
          obtain ⟨c, hc, rfl⟩ := mapI_get hv
          have hi3 : i3 < (free w ks).length := by simpa using hi3
          have u1 : K1 q = some (.lst uk) := f1 _ _ nq (e79 _ _ hu)
          have k1 : KsAt K K1 uk ks := (hk.ex e79).exj f1 g9
          refine ⟨_, rfl, .inl ⟨rfl, _, sqI g1⟩, _, rfl, _, rfl, _, rfl, (by show 2 ≤ sizeLine; decide), fun t2 K2 n2 x2 h2 => ?_⟩
          refine ⟨(by show 1 ≤ sizeLine; decide), fun t3 K3 n3 x3 h3 => ?_⟩
          have kl : uk.length + [V.ref t2].length ≤ sizeLine := Nat.le_trans (show uk.length + 1 ≤ 10 by omega) (by decide)
          refine ⟨_, _, _, _, rfl, rfl, (x2.trans x3) _ _ u1, h3, kl, fun t4 K4 n4 x4 h4 => ?_⟩
          have x14 := x2.trans (x3.trans x4)
          have g4 := x14 _ _ g1
          have np : t4 ≠ G := (ne_of_none ((x2.trans x3) _ _ g1) n4).symm
          obtain ⟨ej, a5⟩ := grow x14 g1 a1 k1 np h4 ((x3.trans x4) _ _ h2)
          refine ⟨_, _, _, rfl, rfl, g4, Nat.lt_of_le_of_lt (show gs.length ≤ 3000 by omega) (by decide), ?_⟩
          have g5 : upd K4 G (.lst (gs ++ [V.ref t4])) G = some (.lst (gs ++ [.ref t4])) := upd_same
          generalize upd K4 G (.lst (gs ++ [V.ref t4])) = K5 at ej a5 g5 ⊢
          have u5 : K5 q = some (.lst uk) := ej _ _ nq u1
          have k5 : KsAt K K5 uk ks := k1.exj ej g1
          refine ⟨_, rfl, .inl ⟨rfl, _, sqI g5⟩, _, rfl, _, rfl, (by show 2 ≤ sizeLine; decide), fun t6 K6 n6 x6 h6 => ?_⟩
          refine ⟨(by show 1 ≤ sizeLine; decide), fun t7 K7 n7 x7 h7 => ?_⟩
          refine ⟨_, _, _, _, rfl, rfl, (x6.trans x7) _ _ u5, h7, kl, fun t8 K8 n8 x8 h8 => ?_⟩
          have x58 := x6.trans (x7.trans x8)
          have g8 := x58 _ _ g5
          have np' : t8 ≠ G := (ne_of_none ((x6.trans x7) _ _ g5) n8).symm
          obtain ⟨ej', a9'⟩ := grow x58 g5 a5 k5 np' h8 ((x7.trans x8) _ _ h6)
          refine ⟨_, _, _, rfl, rfl, g8, Nat.lt_of_le_of_lt (show (gs ++ [V.ref t4]).length ≤ 3000 by rw [List.length_append]; show _ + 1 ≤ _; omega) (by decide), ?_⟩
          refine ⟨_, _, _, _, rfl, f1.trans (ej.trans ej'), upd_same, ?_, ?_⟩
          · rw [take_snoc hc, List.flatMap_append]
            have : [c].flatMap (both ks) = [ks ++ [(c, -1)]] ++ [ks ++ [(c, 1)]] := rfl
            rw [this, ← List.append_assoc, ← List.append_assoc]
            exact a9'
          · rw [List.length_append, List.length_append]
            show _ + 1 + 1 ≤ _
            omega
        · rintro σ K1 ⟨gs, w7, w8, w9, rfl, f1, g1, a1, l1⟩
          rw [List.length_map, List.take_length, ← nextL_free] at a1
          rw [List.length_map] at l1
          refine ⟨gs, _, _, _, _, _, _, rfl, y9.trans f1, g1, ?_, by omega⟩
          rw [take_snoc hks, List.flatMap_append]
          simpa using a1
      · rintro σ H7 ⟨gs, u3, u5, u6, u7, u8, u9, rfl, e7, g7, a7, l7⟩
        rw [show (layerL w i).take ls.length = layerL w i by rw [lL]; exact List.take_length] at a7
        have a7 : AllR (LsX K G H7) gs (layerL w (i + 1)) := a7
        have f7 := e7 _ _ nFG (e6 _ _ hF)
        have lg : gs.length ≤ 6 * 216 := by omega
        refine ⟨_, rfl, _, rfl, _, _, _, _, rfl, rfl, f7, g7, ?_, fun F' H8 n8 e8 h8 => ?_⟩
        · exact Nat.le_trans (show us.length + gs.length ≤ 5000 by omega) (by decide)
        refine ⟨_, rfl, G, _, rfl, .inl (sqI (e8 _ _ g7)), fun L' H9 n9 e9 h9 => ?_⟩
        have e79 := e8.trans e9
        refine ⟨F', L', us ++ gs, gs, _, _, _, _, _, _, _, rfl, ?_, e9 _ _ h8, h9, ?_, a7.mono fun v x r => r.r.ex e79⟩
        · intro b o hb
          have nb : b ≠ G := fun z => by
            have := e5 _ _ hb
            rw [z, nG] at this
            cases this
          exact e79 _ _ (e7 _ _ nb (e6 _ _ (e5 _ _ hb)))
        · rw [everyN_succ]
          exact AllR.append (aF6.mono fun v x r => (r.exj e7 hG).r.ex e79) (a7.mono fun v x r => r.r.ex e79)
    · rintro σ H5 ⟨F, L, us, ls, v3, v4, v5, v6, v7, v8, v9, rfl, e5, hF, hL, aF, aL⟩
      exact ⟨_, rfl, k F H5 us e5 hF aF⟩
end
end K13
set_option Elab.async false
set_option pp.maxSteps 1200
set_option linter.all false
set_option maxRecDepth 100000
set_option maxHeartbeats 4000000
namespace K13
open PySem L2 My
/-- a list of keys, new since H0, not at F -/
def LsY (K : PySem.W.Frag) (H0 : Hp) (F : Addr) (H : Hp) (v : V) (ks : List Ky) : Prop := ∃ p, v = .ref p ∧ H0 p = none ∧ p ≠ F ∧ LsK K H p ks
/-- .. at neither F nor G -/
def LsZ (K : PySem.W.Frag) (H0 : Hp) (F G : Addr) (H : Hp) (v : V) (ks : List Ky) : Prop := ∃ p, v = .ref p ∧ H0 p = none ∧ p ≠ F ∧ p ≠ G ∧ LsK K H p ks
theorem LsZ.keepG {K : PySem.W.Frag} {H0 : Hp} {F G : Addr} {H H' : Hp} {v : V} {ks : List Ky} {ys : List V} (e : Exj G H H') (hG : H G = some (.lst ys)) : LsZ K H0 F G H v ks → LsZ K H0 F G H' v ks
  | ⟨p, a, n, b, c, h⟩ => ⟨p, a, n, b, c, h.exj e c hG⟩
theorem LsZ.keepF {K : PySem.W.Frag} {H0 : Hp} {F G : Addr} {H H' : Hp} {v : V} {ks : List Ky} {ys : List V} (e : Exj F H H') (hF : H F = some (.lst ys)) : LsZ K H0 F G H v ks → LsZ K H0 F G H' v ks
  | ⟨p, a, n, b, c, h⟩ => ⟨p, a, n, b, c, h.exj e b hF⟩
theorem LsZ.ex {K : PySem.W.Frag} {H0 : Hp} {F G : Addr} {H H' : Hp} {v : V} {ks : List Ky} (e : Ex H H') : LsZ K H0 F G H v ks → LsZ K H0 F G H' v ks
  | ⟨p, a, n, b, c, h⟩ => ⟨p, a, n, b, c, h.ex e⟩
theorem LsY.z {K : PySem.W.Frag} {H0 : Hp} {F G : Addr} {H H' : Hp} {v : V} {ks : List Ky} (n : H G = none) (e : Ex H H') : LsY K H0 F H v ks → LsZ K H0 F G H' v ks
  | ⟨p, a, m, b, us, h1, h2⟩ => ⟨p, a, m, b, ne_of_none h1 n, LsK.ex ⟨us, h1, h2⟩ e⟩
theorem LsZ.x {K : PySem.W.Frag} {H0 : Hp} {F G : Addr} {H : Hp} {v : V} {ks : List Ky} : LsZ K H0 F G H v ks → LsY K H0 F H v ks
  | ⟨p, a, n, b, c, h⟩ => ⟨p, a, n, b, h⟩
/-- a new list of keys -/
def LsN (K : PySem.W.Frag) (H0 H : Hp) (v : V) (ks : List Ky) : Prop := ∃ p, v = .ref p ∧ H0 p = none ∧ LsK K H p ks
theorem LsN.ex {K : PySem.W.Frag} {H0 H H' : Hp} {v : V} {ks : List Ky} (e : Ex H H') : LsN K H0 H v ks → LsN K H0 H' v ks
  | ⟨p, a, b, h⟩ => ⟨p, a, b, h.ex e⟩
theorem LsN.exj {K : PySem.W.Frag} {H0 H H' : Hp} {D : Addr} {v : V} {ks : List Ky} {ys : List V} (e : Exj D H H') (hD : H D = some (.lst ys)) (n : ∀ p, v = .ref p → p ≠ D) : LsN K H0 H v ks → LsN K H0 H' v ks
  | ⟨p, a, b, h⟩ => ⟨p, a, b, h.exj e (n p a) hD⟩
/-- a list of keys, not at D -/
def LsD (K : PySem.W.Frag) (H0 : Hp) (D : Addr) (H : Hp) (v : V) (ks : List Ky) : Prop := ∃ p, v = .ref p ∧ H0 p = none ∧ p ≠ D ∧ LsK K H p ks
theorem LsD.ex {K : PySem.W.Frag} {H0 H H' : Hp} {D : Addr} {v : V} {ks : List Ky} (e : Ex H H') : LsD K H0 D H v ks → LsD K H0 D H' v ks
  | ⟨p, a, b, c, h⟩ => ⟨p, a, b, c, h.ex e⟩
theorem LsD.exj {K : PySem.W.Frag} {H0 H H' : Hp} {D : Addr} {v : V} {ks : List Ky} {ys : List V} (e : Exj D H H') (hD : H D = some (.lst ys)) : LsD K H0 D H v ks → LsD K H0 D H' v ks
  | ⟨p, a, b, c, h⟩ => ⟨p, a, b, c, h.exj e c hD⟩
section
variable {w : World} {K : PySem.W.Frag} {mg : Str → Option Value} {base : Heap}
end
end K13
set_option Elab.async false
set_option pp.maxSteps 1200
set_option linter.all false
set_option maxRecDepth 100000
set_option maxHeartbeats 4000000
namespace K13
open PySem L2 My
open LamX (ExtN Tabs)
/-! ### rows in the heap, to be read -/
def RwR (K : PySem.W.Frag) (H : Hp) (v : V) (r : List Int) : Prop := ∃ q, v = .ref q ∧ SqL K H q (r.map V.int)
def RowsQ (K : PySem.W.Frag) (H : Hp) (p : Addr) (rows : List (List Int)) : Prop := ∃ us, SqL K H p us ∧ AllR (RwR K H) us rows
theorem RwR.ex {K : PySem.W.Frag} {H H' : Hp} {v : V} {r : List Int} (h : RwR K H v r) (e : Ex H H') : RwR K H' v r := let ⟨q, a, b⟩ := h; ⟨q, a, Evl.ex_l e b⟩
theorem RwR.extN {K : PySem.W.Frag} {H H' : Hp} {v : V} {r : List Int} (h : RwR K H v r) (e : ExtN H H') : RwR K H' v r := let ⟨q, a, b⟩ := h; ⟨q, a, sql_extN e b⟩
theorem RowsQ.ex {K : PySem.W.Frag} {H H' : Hp} {p : Addr} {rows : List (List Int)} (h : RowsQ K H p rows) (e : Ex H H') : RowsQ K H' p rows := let ⟨us, a, b⟩ := h; ⟨us, Evl.ex_l e a, b.mono fun _ _ r => r.ex e⟩
theorem RowsQ.extN {K : PySem.W.Frag} {H H' : Hp} {p : Addr} {rows : List (List Int)} (h : RowsQ K H p rows) (e : ExtN H H') : RowsQ K H' p rows := let ⟨us, a, b⟩ := h; ⟨us, sql_extN e a, b.mono fun _ _ r => r.extN e⟩
theorem KyR.extN {K : PySem.W.Frag} {H H' : Hp} {v : V} {k : Ky} (h : KyR K H v k) (e : ExtN H H') : KyR K H' v k := let ⟨q, a, b⟩ := h; ⟨q, a, sqT_extN e b⟩
theorem LsQ.extN {K : PySem.W.Frag} {H H' : Hp} {p : Addr} {ks : List Ky} (h : LsQ K H p ks) (e : ExtN H H') : LsQ K H' p ks := let ⟨us, a, b⟩ := h; ⟨us, sql_extN e a, b.mono fun _ _ r => r.extN e⟩
theorem LsK.extN {K : PySem.W.Frag} {H H' : Hp} {p : Addr} {ks : List Ky} (h : LsK K H p ks) (e : ExtN H H') : LsK K H' p ks := let ⟨us, a, b⟩ := h; ⟨us, extN_l e a, b.mono fun _ _ r => r.extN e⟩
theorem rowsQ {K : PySem.W.Frag} {H : Hp} {p : Addr} {us : List V} {rows : List (List Int)} (h : H p = some (.lst us)) (a : AllAt .lst H us rows) : RowsQ K H p rows := ⟨us, sqI h, a.1, fun i v r h1 h2 => let ⟨q, e, hq⟩ := a.2 i v r h1 h2; ⟨q, e, sqI hq⟩⟩
/-- a cell is read -/
theorem RowsQ.at {K : PySem.W.Frag} {H : Hp} {p : Addr} {rows : List (List Int)} {w : Nat} {i c : Int} (h : RowsQ K H p rows) (hw : ∀ r ∈ rows, r.length = w) (hi : i ∈ ns rows.length) (c0 : 0 ≤ c) (c1 : c < w) :
    ∃ (us : List V) (q : Addr) (r : List Int), SqL K H p us ∧ atI us i = some (.ref q) ∧ SqL K H q (r.map V.int) ∧ atI (r.map V.int) c = some (.int (cellV rows i c)) := by
  obtain ⟨us, hu, ha⟩ := h
  obtain ⟨i0, i1⟩ := ns_mem hi
  obtain ⟨n, rfl⟩ : ∃ n : Nat, i = (n : Int) := ⟨i.toNat, by omega⟩
  obtain ⟨m, rfl⟩ : ∃ m : Nat, c = (m : Int) := ⟨c.toNat, by omega⟩
  have l : n < rows.length := by omega
  have hr : rows[n]? = some rows[n] := List.getElem?_eq_getElem l
  have hv : us[n]? = some (us[n]'(by rw [ha.1]; exact l)) := List.getElem?_eq_getElem _
  obtain ⟨q, e, hq⟩ := ha.2 _ _ _ hv hr
  refine ⟨us, q, rows[n], hu, ?_, hq, ?_⟩
  · rw [← e]
    exact atI_nat hv
  · have lw := hw _ (List.getElem_mem l)
    have hc : (rows[n].map V.int)[m]? = some (.int (cellV rows n m)) := by
      unfold cellV
      rw [List.getElem?_map, Int.toNat_natCast, Int.toNat_natCast, List.getD_eq_getElem?_getD (l := rows), hr, Option.getD_some, List.getD_eq_getElem?_getD, List.getElem?_eq_getElem (by omega)]
      rfl
    exact atI_nat hc
/-- a new list of ints, the code tables perhaps written in -/
def NewT (tabs : List (Addr × Str)) (xs : List Int) (H : Hp) (Q : VK) : Prop := ∀ p H', NewN H p → ExtN H H' → Tabs tabs H' → H' p = some (.lst (xs.map V.int)) → Q (.ref p) H'
structure Asks (K : PySem.W.Frag) (tabs : List (Addr × Str)) (H : Hp) (p q : Addr) (w : Nat) (rows : List (List Int)) (ks : List Ky) : Prop where
  rw : RowsQ K H p rows
  wd : ∀ r ∈ rows, r.length = w
  many : rows.length ≤ 1000
  ls : LsQ K H q ks
  vd : KsW w ks
  few : ks.length ≤ 500
  tb : Tabs tabs H
def sp__law_order (K : PySem.W.Frag) (tabs : List (Addr × Str)) : Sp := fun vs H Q _ => ∃ (p q : Addr) (w : Nat) (rows : List (List Int)) (ks : List Ky), vs = [.ref p, .ref q] ∧ Asks K tabs H p q w rows ks ∧ NewT tabs (ordF rows ks) H Q
theorem sgn {s x : Int} (h : s = 1 ∨ s = -1) : CMul s x := .inl (by rcases h with z | z <;> rw [z] <;> decide)
theorem le_keys (rows : List (List Int)) (ks : List Ky) : PySem.W.dataLe false (fun i => eL PyData.int (keyL rows ks i)) = fun i j => decide (keyL rows ks i ≤ keyL rows ks j) := by
  have h := PySem.W.dataLe_rows (β := Int) (keyL rows ks)
  exact h
theorem le_ints (f : Int → Int) : PySem.W.dataLe false (fun i => PyData.int (f i)) = fun i j => decide (f i ≤ f j) := by
  rw [PySem.W.dataLe_eq]
  funext i j
  show (!PySem.W.dataLt (.int (f j)) (.int (f i))) = _
  rw [PySem.W.dataLt_int, ← decide_not, decide_eq_decide]
  omega
section
variable {w : World} {K : PySem.W.Frag} {mg : Str → Option Value} {base : Heap}
/-- one stable sort by a column, the key's lambda given -/
theorem kv_le (rows : List (List Int)) (k : Ky) (l : List Int) : l.mergeSort (PySem.W.dataLe false fun i => PyData.int (kv rows k i)) = sortBy rows k l := by
  rw [le_ints]
  rfl
theorem ok__law_order (T : Txt K mg) (hB : T.Bs base) : FnOk PR w K mg base CX0 2 T.a__law_order T.d__law_order ["_law_rows_here", "_law_keys_here"] (sp__law_order K T.tabs) := by
  refine T.f__law_order.ok sc__law_order (fun vs H Q E h => ?_) (fun A outer s H vs Q E hr h => ?_)
  · obtain ⟨p, q, w, rows, ks, rfl, _⟩ := h
    rfl
  · obtain ⟨p, q, w, rows, ks, rfl, a, k⟩ := h
    refine ⟨_, (pss_cons (ps_set (i := 2) sc__law_order.nd rfl (by first | exact Or.inl rfl | exact Or.inr rfl) (pe_listRgG (by rfl) (by rfl) T.z_list (prg_1 (by rfl) T.z_range (pe_callB call_len_seq (by rfl) T.z_len PySem.boot_len (pa_cons (pv 0) pa_nil))))) (pss_cons (ps_for PassesOwn.never rfl (pi_list (pe_revG (pv 1))) (pg_tup rfl (pgs_cons (pg_name (i := 3) sc__law_order.nd rfl (by first | exact Or.inl rfl | exact Or.inr rfl)) (pgs_cons (pg_name (i := 4) sc__law_order.nd rfl (by first | exact Or.inl rfl | exact Or.inr rfl)) pgs_nil))) (pss_one (ps_set (i := 2) sc__law_order.nd rfl (by first | exact Or.inl rfl | exact Or.inr rfl) (pe_sortLam (T := T.tabs) (N := ["_law_row", "_law_sign", "_law_column", "_law_rows_here"]) (p := "_law_row") (fr := ["_law_sign", "_law_column", "_law_rows_here"]) (js := [4, 3, 0]) (k := 0) (by rfl) T.z_sorted (pv 2) (T.tb__law_order hB) rfl T.tm__law_order T.tu__law_order (hr.mono (by decide)) (lscope_by (by kernel_rfl)) (by kernel_rfl) rfl rfl (fun _ _ _ _ _ _ => rfl) (fun c' f A outer s H hr => (pe_op op_mul (pv 1) (pe_ix (ixK (r := rIxL) (K := K) (by rfl) ix_list) (pe_ix (ixK (r := rIxL) (K := K) (by rfl) ix_list) (pv 3) (pv 0) (fun _ _ => rfl)) (pv 2) (fun _ _ => rfl)))))))) (pss_one (ps_ret (pv 2))))), ?_⟩
    obtain ⟨us, hu, hR⟩ := a.rw
    have ul : us.length = rows.length := hR.1
    have lr := a.many
    refine ⟨_, rfl, _, _, rfl, .inl hu, ?_⟩
    rw [ul]
    refine ⟨_, rfl, rgo rows.length (by omega), fun L H1 nL e1 hL => ?_⟩
    have hL : H1 L = some (.lst ((ns rows.length).map V.int)) := by rw [hL, rgV_upN]; rfl
    obtain ⟨ts, ht, hk⟩ := a.ls.ex e1
    refine ⟨_, rfl, q, ts, rfl, ht, fun V H2 nV e2 hV => ?_⟩
    have e02 := e1.trans e2
    have hk2 := (allR_rev hk).mono fun _ _ r => KyR.ex r e2
    refine ⟨V, rfl, ⟨_, sqI hV⟩, for_list (K := K) (a := V) (xs := ts.reverse) (fun i σ H' => ∃ (L' : Addr) (v3 v4 : Option L2.V), σ = [some (.ref p), some (.ref q), some (.ref L'), v3, v4] ∧ ExtN H2 H' ∧ Tabs T.tabs H' ∧ H' L' = some (.lst ((ordF rows (ks.drop (ks.length - i))).map L2.V.int)) ∧ NewN H L') ⟨L, _, _, rfl, ExtN.refl _, a.tb.ext e02, ?_, .of nL⟩ (fun i σ H' _ ⟨_, _, _, _, e, _⟩ => sql_extN e (sqI hV)) ?_ ?_⟩
    · rw [Nat.sub_zero, List.drop_length]
      exact e2 _ _ hL
    · rintro i x σ H3 hi ⟨L', v3, v4, rfl, e3, t3, h3, n3⟩
      obtain ⟨k', hki, q', rfl, hq⟩ := hk2.get hi
      have il : i < ks.length := by
        have := (List.getElem?_eq_some_iff.mp hki).1
        rwa [List.length_reverse] at this
      have hd : ks.drop (ks.length - (i + 1)) = k' :: ks.drop (ks.length - i) := by
        rw [List.drop_eq_getElem_cons (by omega), show ks.length - (i + 1) + 1 = ks.length - i by omega]
        congr 1
        rw [List.getElem?_reverse il, List.getElem?_eq_getElem (by omega)] at hki
        have := Option.some.inj hki
        rw [← this]
        congr 1
        omega
      have hm : k' ∈ ks := List.mem_reverse.mp (List.mem_of_getElem? hki)
      obtain ⟨c0, c1⟩ := a.vd.2 k'.1 (List.mem_map.mpr ⟨k', hm, rfl⟩)
      refine ⟨_, _, rfl, sqT_extN e3 hq, rfl, _, _, rfl, _, _, rfl, rfl, ?_⟩
      show _
      refine ⟨_, rfl, slk_ints (l := ordF rows (ks.drop (ks.length - i))) (fun j => PyData.int (kv rows k' j)) (sqI h3) t3 (fun i j => rfl) (.inr fun i => ⟨(by intro z; cases z), (by intro xs z; cases z)⟩) (fun i => Nat.zero_le _) (fun H4 e4 j hj => ?_) (fun p' H4 n' e4 t4 h4 => ?_)⟩
      · obtain ⟨us', q2, r, h1, h2, h5, h6⟩ := (a.rw.extN ((ExtN.of e02).trans (e3.trans e4))).at a.wd ((ordF_perm _).mem_iff.mp hj) c0 c1
        refine st_eq (σ' := [some (.int j), some (.int k'.2), some (.int k'.1), some (.ref p)]) (P := fun σ => tOp _ _ _ σ H4 _) rfl ?_
        exact ⟨_, rfl, _, rfl, _, rfl, _, _, _, _, rfl, rfl, h1, h2, _, rfl, _, _, _, _, rfl, rfl, h5, h6, _, _, rfl, rfl, sgn (a.vd.1.sg _ hm), Evl.Ex.refl _, .int _⟩
      · rw [kv_le] at h4
        exact ⟨p', _, _, rfl, e3.trans e4, t4, by rw [hd]; exact h4, n'.back ((ExtN.of e02).trans e3)⟩
    · rintro σ H3 ⟨L', v3, v4, rfl, e3, t3, h3, n3⟩
      rw [List.length_reverse, hk.1, Nat.sub_self] at h3
      exact ⟨_, rfl, k L' H3 n3 ((ExtN.of e02).trans e3) t3 h3⟩
end
end K13
set_option Elab.async false
set_option pp.maxSteps 1200
set_option linter.all false
set_option maxRecDepth 100000
set_option maxHeartbeats 4000000
namespace K13
open PySem L2 My
/-- a list of ints, not the deck -/
def RwX (j : Addr) (H : Hp) (v : V) (r : List Int) : Prop := ∃ q, v = .ref q ∧ q ≠ j ∧ H q = some (.lst (r.map V.int))
theorem RwX.ex {j : Addr} {H H' : Hp} {v : V} {r : List Int} (h : RwX j H v r) (e : Ex H H') : RwX j H' v r := let ⟨q, a, n, b⟩ := h; ⟨q, a, n, e _ _ b⟩
theorem RwX.exj {j : Addr} {H H' : Hp} {v : V} {r : List Int} (h : RwX j H v r) (e : Exj j H H') : RwX j H' v r := let ⟨q, a, n, b⟩ := h; ⟨q, a, n, e _ _ n b⟩
theorem RwX.upd {j F : Addr} {H : Hp} {v : V} {r : List Int} {o : HO} (h : RwX j H v r) (n : ∀ q, v = .ref q → q ≠ F) : RwX j (L2.upd H F o) v r := let ⟨q, a, m, b⟩ := h; ⟨q, a, m, by rw [upd_ne (n q a)]; exact b⟩
theorem RwX.dp {K : PySem.W.Frag} {j : Addr} {H : Hp} {v : V} {r : List Int} (h : RwX j H v r) : Dp K H v (eL PyData.int r) := by
  obtain ⟨q, rfl, _, b⟩ := h
  exact dpL (sqI b)
/-- a comprehension of draws -/
theorem lc_deckR {n : Nat} {m : Int} {j : Addr} {jj : Nat} {te : TE} {vs : List Nat} {σ : L2.St} {H1 : Hp} {D : Addr} {Qd : Hp → Prop} (j1 : Deck H1 j m) (hD : H1 D = none) (hz : n < sizeLine)
    {B : Int} (hw : ∀ x, wipe ((wipe σ vs).set jj (some x)) vs = wipe σ vs)
    (he : ∀ (i : Nat) H', Exj j H1 H' → Deck H' j (m + i) → i < n → ∀ R : VK, (∀ (v : Int) H2, -B < v → v < B → Exj j H' H2 → Deck H2 j (m + i + 1) → R (.int v) H2) → te ((wipe σ vs).set jj (some (.int (0 + i)))) H' R)
    (k : ∀ (ts : List Int) H', Exj j H1 H' → Deck H' j (m + n) → H' D = some (.lst (ts.map V.int)) → ts.length = n → (∀ t ∈ ts, -B < t ∧ t < B) → Qd H') :
    ∃ W : Nat → Nat → Hp → Prop, (∃ m, W 0 m (upd H1 D (.lst []))) ∧ ∀ i m H, W i m H →
      ((Itr 0 n).stop i H ∧ Qd H) ∨ ((Itr 0 n).go i H ∧ ∃ Nx : Hp → Prop, (∀ H', Nx H' → ∃ m', m' < m ∧ W (i + 1) m' H') ∧ ∀ x H', (Itr 0 n).yld i H x H' → gName jj x (wipe σ vs) H' fun σ2 H2 => wipe σ2 vs = wipe σ vs ∧ tYes σ2 H2 fun b H3 =>
        if b = true then te σ2 H3 fun y H4 => ∃ acc, H4 D = some (.lst acc) ∧ acc.length < sizeLine ∧ Nx (upd H4 D (.lst (acc ++ [y]))) else Nx H3) := by
  have nDj : D ≠ j := j1.ne hD
  refine lc_range (fun i H2 => ∃ ts : List Int, Exj j H1 H2 ∧ Deck H2 j (m + i) ∧ H2 D = some (.lst (ts.map V.int)) ∧ ts.length = i ∧ ∀ t ∈ ts, -B < t ∧ t < B) ?_ ?_ ?_
  · exact ⟨[], Exj.of (Evl.Ex.new hD), (j1.ex (Evl.Ex.new hD)).mono (by omega), upd_same, rfl, fun t ht => by cases ht⟩
  · rintro i H2 hi ⟨ts, e2, j2, hd, hl, hb⟩
    refine ⟨hw _, ?_⟩
    show te ((wipe σ vs).set jj (some (.int (0 + i)))) H2 _
    refine he i H2 e2 j2 hi _ fun v H3 v0 v1 e3 j3 => ?_
    refine ⟨ts.map V.int, e3 _ _ nDj hd, ?_, ?_⟩
    · rw [List.length_map, hl]
      omega
    · refine ⟨ts ++ [v], fun b o nb hb => ?_, (j3.mono (by omega)).upd nDj, ?_, by simp [hl], fun t ht => ?_⟩
      · rw [upd_ne (ne_of_none hb hD)]
        exact e3 _ _ nb (e2 _ _ nb hb)
      · rw [upd_same, List.map_append]
        rfl
      · rcases List.mem_append.mp ht with z | z
        · exact hb t z
        · rw [List.mem_singleton.mp z]
          exact ⟨v0, v1⟩
  · rintro H2 ⟨ts, e2, j2, hd, hl, hb⟩
    exact k ts H2 e2 j2 hd hl hb
def sp__law_rows : Sp := fun vs H Q _ => ∃ (j : Addr) (w : Nat) (most n : Int), vs = [.ref j, .int (w : Nat), .int most] ∧ Deck H j n ∧ n ≤ 900000 ∧ 1 ≤ w ∧ w ≤ 5 ∧ 0 ≤ most ∧ most ≤ 40 ∧
  ∀ (p : Addr) (us : List V) (rows : List (List Int)) (H' : Hp), H p = none → p ≠ j → Exj j H H' → Deck H' j (n + 400) → H' p = some (.lst us) → AllR (RwX j H') us rows → (∀ r ∈ rows, r.length = w ∧ ∀ x ∈ r, -(2 ^ 100) < x ∧ x < 2 ^ 100) → (rows.length : Int) ≤ most → Q (.ref p) H'
theorem at3' {α : Type} {a b c d : α} {l : List α} : atI (a :: b :: c :: d :: l) 3 = some d := atI_nat (j := 3) rfl
theorem at4 {a b c e d : Int} (h0 : 0 ≤ d) (h1 : d < 4) : ∃ v, atI [V.int a, V.int b, V.int c, V.int e] d = some (.int v) ∧ (v = a ∨ v = b ∨ v = c ∨ v = e) := by
  rcases (show d = 0 ∨ d = 1 ∨ d = 2 ∨ d = 3 by omega) with z | z | z | z
  · exact ⟨a, by rw [z]; exact at0, .inl rfl⟩
  · exact ⟨b, by rw [z]; exact at1, .inr (.inl rfl)⟩
  · exact ⟨c, by rw [z]; exact at2', .inr (.inr (.inl rfl))⟩
  · exact ⟨e, by rw [z]; exact at3', .inr (.inr (.inr rfl))⟩
section
variable {w : World} {K : PySem.W.Frag} {mg : Str → Option Value} {base : Heap}
theorem ok__law_rows (T : Txt K mg) : FnOk PR w K mg base CX0 2 T.a__law_rows T.d__law_rows ["_law_deck", "_law_width", "_law_most"] sp__law_rows := by
  refine T.f__law_rows.ok sc__law_rows (fun vs H Q E h => ?_) (fun cdv A outer s H vs Q E hr h => ?_)
  · obtain ⟨j, w, most, n, rfl, _⟩ := h
    rfl
  · obtain ⟨j, w, most, n, rfl, hj, hn, w0, w1, m0, m1, k⟩ := h
    refine ⟨_, (pss_cons (ps_asg (pe_tupG (pa_cons (pe_ix ix_list (pe_lstG (pa_cons pe_int (pa_cons pe_int (pa_cons pe_int (pa_cons (pe_op op_powW pe_int pe_int) pa_nil))))) (pe_call (ok__law_draw T) (hr.mono (by decide)) (by rfl) T.g__law_draw T.f__law_draw.kp (b__law_draw T) .nil pass0 (pa_cons (pv 0) (pa_cons pe_int pa_nil))) (fun _ _ => rfl)) (pa_cons (pe_ix ix_list (pe_lstG (pa_cons pe_int (pa_cons pe_int (pa_cons pe_int (pa_cons (pe_op op_add (pe_op op_powW pe_int pe_int) pe_int) pa_nil))))) (pe_call (ok__law_draw T) (hr.mono (by decide)) (by rfl) T.g__law_draw T.f__law_draw.kp (b__law_draw T) .nil pass0 (pa_cons (pv 0) (pa_cons pe_int pa_nil))) (fun _ _ => rfl)) pa_nil))) (pg_tup rfl (pgs_cons (pg_name (i := 3) sc__law_rows.nd rfl (by first | exact Or.inl rfl | exact Or.inr rfl)) (pgs_cons (pg_name (i := 4) sc__law_rows.nd rfl (by first | exact Or.inl rfl | exact Or.inr rfl)) pgs_nil)))) (pss_cons (ps_set (i := 5) sc__law_rows.nd rfl (by first | exact Or.inl rfl | exact Or.inr rfl) (pe_lstG pa_nil)) (pss_cons (ps_for PassesOwn.never rfl (pi_range1 (by rfl) T.z_range (pa_cons (pe_call (ok__law_draw T) (hr.mono (by decide)) (by rfl) T.g__law_draw T.f__law_draw.kp (b__law_draw T) .nil pass0 (pa_cons (pv 0) (pa_cons (pe_op op_add (pv 2) pe_int) pa_nil))) pa_nil)) (pg_name (i := 6) sc__law_rows.nd rfl (by first | exact Or.inl rfl | exact Or.inr rfl)) (pss_cons (ps_setLc (i := 7) (own := [("_law_column", 8)]) (g := gName 8) (by rfl) sc__law_rows.nd rfl rfl (sw_true rfl rfl rfl (by decide +kernel)) (pi_range1 (by rfl) T.z_range (pa_cons (pv 1) pa_nil)) (blkOk_by (own := [("_law_column", 8)]) (N := ["_law_deck", "_law_width", "_law_most", "_law_span", "_law_scale", "_law_found", "_law_turn", "_law_cells", "_law_column"]) (sc := (defScope s__law_rows)) (by decide +kernel)) (fun _ _ _ _ _ => (pg_name (i := 8) sc__law_rows.nd rfl (by first | exact Or.inl rfl | exact Or.inr rfl))) (fun _ _ _ _ _ => pts_nil) (fun _ _ _ _ _ => (pe_op op_mul (pe_op op_sub (pe_call (ok__law_draw T) (hr.mono (by decide)) (by rfl) T.g__law_draw T.f__law_draw.kp (b__law_draw T) .nil pass0 (pa_cons (pv 0) (pa_cons (pv 3) pa_nil))) (pe_op op_fdivW (pv 3) pe_int)) (pv 4)))) (pss_cons (ps_cut (ps_if (PW.pt (pw_and (pt_cmpR (op_neD hr.units) (pv 5) (pe_lstG pa_nil) (nomark _)) (pw_and1 (pt_cmpR op_eq (pe_call (ok__law_draw T) (hr.mono (by decide)) (by rfl) T.g__law_draw T.f__law_draw.kp (b__law_draw T) .nil pass0 (pa_cons (pv 0) (pa_cons pe_int pa_nil))) pe_int (nomark _))))) (pss_one (ps_set (i := 7) sc__law_rows.nd rfl (by first | exact Or.inl rfl | exact Or.inr rfl) (pe_callTy call_listG (by rfl) T.z_list (by decide +kernel) (pa_cons (pe_ix ix_list (pv 5) (pe_call (ok__law_draw T) (hr.mono (by decide)) (by rfl) T.g__law_draw T.f__law_draw.kp (b__law_draw T) .nil pass0 (pa_cons (pv 0) (pa_cons (pe_callB call_len_seq (by rfl) T.z_len PySem.boot_len (pa_cons (pv 5) pa_nil)) pa_nil))) (fun _ _ => rfl)) pa_nil)))) pss_nil)) (pss_one (ps_expr (pe_bm PySem.F.plainAttrs_list PySem.F.slot_list_append PySem.F.type_list_append mt_append (pv 5) (pa_cons (pv 7) pa_nil))))))) (pss_one (ps_ret (pv 5)))))), ?_⟩
    refine ⟨_, _, rfl, rfl, powW_of (i := 10) (j := 14) (a := 4) (by decide) (by decide) (by decide), (by show 4 ≤ sizeLine; decide), fun p1 H1 n1 e1 h1 => ?_⟩
    have np1 := hj.ne n1
    refine ⟨_, rfl, j, _, n, rfl, hj.ex e1, by omega, by decide, by decide, fun d2 H2 d2a d2b e2 j2 => ?_⟩
    obtain ⟨span, at2, hspan⟩ := at4 (a := 2) (b := 3) (c := 5) (e := 10 ^ (14 : Int).toNat) d2a d2b
    refine ⟨_, _, _, _, rfl, rfl, sqI (e2 _ _ np1 h1), at2, _, _, rfl, rfl, powW_of (i := 10) (j := 14) (a := 4) (by decide) (by decide) (by decide), _, _, rfl, rfl, (by show 4 ≤ sizeLine; decide), fun p3 H3 n3 e3 h3 => ?_⟩
    have np3 := j2.ne n3
    refine ⟨_, rfl, j, _, _, rfl, j2.ex e3, by omega, by decide, by decide, fun d4 H4 d4a d4b e4 j4 => ?_⟩
    obtain ⟨scale, at4_, hscale⟩ := at4 (a := 1) (b := 1) (c := 1) (e := 10 ^ (14 : Int).toNat + 37) d4a d4b
    have hsp : 2 ≤ span ∧ span ≤ 10 ^ 14 := by
      rcases hspan with z | z | z | z <;> rw [z] <;> decide
    have hsc : -(2 ^ 64) < scale ∧ scale < 2 ^ 64 := by
      rcases hscale with z | z | z | z <;> rw [z] <;> decide
    have hsc2 : scale.natAbs ≤ 10 ^ 15 := by
      rcases hscale with z | z | z | z <;> rw [z] <;> decide
    refine ⟨_, _, _, _, rfl, rfl, sqI (e4 _ _ np3 h3), at4_, ?_⟩
    have e04 : Exj j H H4 := (Exj.of e1).trans (e2.trans ((Exj.of e3).trans e4))
    clear hspan hscale at2 at4_
    refine ⟨(by show 2 ≤ sizeLine; decide), fun t H5 n5 e5 h5 => ?_⟩
    refine ⟨_, _, rfl, sqT h5, rfl, _, _, rfl, _, _, rfl, rfl, (by show 0 ≤ sizeLine; decide), fun F H6 n6 e6 hF => ?_⟩
    have j6 := (j4.ex e5).ex e6
    have nFj := (j4.ex e5).ne n6
    have e06 : Exj j H H6 := e04.trans ((Exj.of e5).trans (Exj.of e6))
    have nF : H F = none := e04.back nFj (Ex_back e5 n6)
    refine ⟨_, rfl, _, rfl, _, _, rfl, rfl, j, _, _, rfl, j6, by omega, by omega, by omega, fun d7 H7 d7a d7b e7 j7 => ?_⟩
    have hF7 := e7 _ _ nFj hF
    refine ⟨_, rfl, by omega, by omega, for_range (lo := 0) (n := d7.toNat) (fun i σ H' => ∃ (v6 v7 : Option V) (us : List V) (rows : List (List Int)), σ = [some (.ref j), some (.int (w : Nat)), some (.int most), some (.int span), some (.int scale), some (.ref F), v6, v7, none] ∧ Exj j H H' ∧ Deck H' j (n + 3 + 7 * i) ∧ H' F = some (.lst us) ∧ AllR (fun v r => RwX j H' v r ∧ v ≠ .ref F) us rows ∧ (∀ r ∈ rows, r.length = w ∧ ∀ x ∈ r, -(2 ^ 100) < x ∧ x < 2 ^ 100) ∧ rows.length = i)
      ⟨_, _, [], [], rfl, e06.trans e7, j7.mono (by omega), hF7, ⟨rfl, fun i v r h1 h2 => by cases h1⟩, (fun r hr => by cases hr), rfl⟩ ?_ ?_⟩
    · rintro i σ H8 hi ⟨v6, v7, us, rows, rfl, e8, j8, f8, a8, w8, l8⟩
      refine ⟨_, rfl, _, rfl, by omega, by omega, fun D hD => lc_deckR (n := w) (B := 2 ^ 100) j8 hD (Nat.lt_of_lt_of_le (show w < 100 by omega) (by decide)) (fun x => rfl) ?_ ?_⟩
      · intro i' H' e' j' hi' R kR
        refine ⟨_, rfl, _, rfl, j, _, _, rfl, j', by omega, by omega, Int.lt_of_le_of_lt hsp.2 (by decide), fun d H'' d0 d1 e'' j'' => ?_⟩
        have bd : -(2 ^ 100) < (d - span / 2) * scale ∧ (d - span / 2) * scale < 2 ^ 100 := by
          have a1 : (d - span / 2).natAbs ≤ 10 ^ 14 := by omega
          have a2 : scale.natAbs ≤ 10 ^ 15 := hsc2
          have a3 : ((d - span / 2) * scale).natAbs ≤ 10 ^ 14 * 10 ^ 15 := by
            rw [Int.natAbs_mul]
            exact Nat.mul_le_mul a1 a2
          omega
        refine ⟨_, rfl, _, _, rfl, rfl, ?_, _, _, rfl, rfl, _, rfl, _, _, rfl, rfl, .inr hsc, kR _ H'' bd.1 bd.2 e'' j''⟩
        exact ⟨by decide, by decide⟩
      · intro ts H9 e9 j9 d9 l9 b9
        have nDj := j8.ne hD
        have f9 := e9 _ _ nFj f8
        have nDF : D ≠ F := fun z => by rw [z, f8] at hD; cases hD
        refine ⟨fun σ' H' => ∃ (c' : Addr) (r : List Int), σ' = [some (.ref j), some (.int (w : Nat)), some (.int most), some (.int span), some (.int scale), some (.ref F), some (.int (0 + (i : Int))), some (.ref c'), none] ∧ c' ≠ j ∧ c' ≠ F ∧ H' c' = some (.lst (r.map V.int)) ∧ (r.length = w ∧ ∀ x ∈ r, -(2 ^ 100) < x ∧ x < 2 ^ 100) ∧ Exj j H9 H' ∧ Deck H' j (n + 3 + 7 * i + w + 2), ?_, ?_⟩
        · refine ⟨_, rfl, (by show 0 ≤ sizeLine; decide), fun p5 H10 n10 e10 h10 => ?_⟩
          refine neE (goodL (goodL goodI)) (by decide) (x := rows) (y := []) (.lst (sqI (e10 _ _ f9)) ?_) (.lst (sqI h10) .nil) ⟨_, rfl, ?_⟩
          · exact (a8.mono (S := fun v r => RwX j H10 v r) fun v r h => (h.1.exj e9).ex e10).dp fun v r h => h.dp
          have j10 : Deck H10 j (n + 3 + 7 * i + w) := j9.ex e10
          refine ifB (fun cc => ?_) (fun cc => ⟨D, ts, rfl, nDj, nDF, e10 _ _ d9, ⟨l9, b9⟩, Exj.of e10, j10.mono (by omega)⟩)
          have ne : rows ≠ [] := by simpa using cc
          refine ⟨_, rfl, j, _, _, rfl, j10, by omega, by decide, by decide, fun d3 H11 d3a d3b e11 j11 => ?_⟩
          refine ⟨rfl, _, rfl, ?_⟩
          have y11 : Exj j H9 H11 := (Exj.of e10).trans e11
          refine ifB (fun c2 => ?_) (fun c2 => ⟨D, ts, rfl, nDj, nDF, y11 _ _ nDj d9, ⟨l9, b9⟩, y11, j11.mono (by omega)⟩)
          have f11 := y11 _ _ nFj f9
          have ul := a8.1
          have rpos : 0 < rows.length := List.length_pos_iff.mpr ne
          refine ⟨_, rfl, _, rfl, _, rfl, _, _, rfl, .inl (sqI f11), j, _, _, rfl, j11, by omega, by omega, ?_, fun m H12 m0 m1 e12 j12 => ?_⟩
          · exact Int.lt_of_le_of_lt (show ((us.length : Nat) : Int) ≤ 1000 by omega) (by decide)
          obtain ⟨m, rfl⟩ : ∃ m' : Nat, m = (m' : Int) := ⟨m.toNat, by omega⟩
          have hm : us[m]? = some (us[m]'(by omega)) := List.getElem?_eq_getElem _
          obtain ⟨r, hr, ⟨q, eq, nq, hq⟩, nqF⟩ := a8.get hm
          have y12 := y11.trans e12
          have q12 : H12 q = some (.lst (r.map V.int)) := y12 _ _ nq (e9 _ _ nq hq)
          refine ⟨_, _, _, _, rfl, rfl, sqI (y12 _ _ nFj f9), atI_nat hm, _, _, by rw [eq], .inl (sqI q12), fun p13 H13 n13 e13 h13 => ?_⟩
          exact ⟨p13, r, rfl, j12.ne n13, (ne_of_none (y12 _ _ nFj f9) n13).symm, h13, w8 _ (List.mem_of_getElem? hr), y12.trans (Exj.of e13), (j12.ex e13).mono (by omega)⟩
        · rintro σ' H10 ⟨c', r, rfl, c1, c2, hc, lr, e10, j10⟩
          have f10 := e10 _ _ nFj f9
          have ul := a8.1
          refine ⟨_, rfl, .inl ⟨rfl, _, sqI f10⟩, _, rfl, _, _, _, rfl, rfl, f10, ?_, ?_⟩
          · exact Nat.lt_of_lt_of_le (show us.length < 1000 by omega) (by decide)
          · have y10 : Exj j H8 H10 := e9.trans e10
            refine ⟨_, _, us ++ [.ref c'], rows ++ [r], rfl, ?_, (j10.mono (by omega)).upd nFj, upd_same, ?_, ?_, by simp [l8]⟩
            · intro b o nb hb
              rw [upd_ne (ne_of_none hb nF)]
              exact y10 _ _ nb (e8 _ _ nb hb)
            · refine AllR.snoc (a8.mono fun v x h => ⟨(h.1.exj y10).upd fun q e z => h.2 (by rw [e, z]), h.2⟩) ⟨⟨c', rfl, c1, by rw [upd_ne c2]; exact hc⟩, fun z => c2 (V.ref.inj z)⟩
            · intro x hx
              rcases List.mem_append.mp hx with z | z
              · exact w8 x z
              · rw [List.mem_singleton.mp z]
                exact lr
    · rintro σ H8 ⟨v6, v7, us, rows, rfl, e8, j8, f8, a8, w8, l8⟩
      exact ⟨_, rfl, k F us rows H8 nF nFj e8 (j8.mono (by omega)) f8 (a8.mono fun v r h => h.1) w8 (by omega)⟩
end
end K13
set_option Elab.async false
set_option pp.maxSteps 1200
set_option linter.all false
set_option maxRecDepth 100000
set_option maxHeartbeats 8000000
namespace K13
open PySem L2 My
open LamX (ExtN Tabs)
/-! ### the fields of spots -/
theorem n_sz_st : ¬ (("size" : Str) = "steps") := by decide +kernel
theorem n_sz_de : ¬ (("size" : Str) = "descending") := by decide +kernel
theorem n_st_de : ¬ (("steps" : Str) = "descending") := by decide +kernel
def sf (m : Nat) (sp dp : Addr) : List (Str × V) := putF "descending" (.ref dp) (putF "steps" (.ref sp) (putF "size" (.int (m : Nat)) []))
theorem sf_size (m : Nat) (sp dp : Addr) : (sf m sp dp).lookup ("size" : Str) = some (.int (m : Nat)) := by
  unfold sf
  rw [lookup_putF, if_neg n_sz_de, lookup_putF, if_neg n_sz_st, lookup_putF, if_pos rfl]
theorem sf_steps (m : Nat) (sp dp : Addr) : (sf m sp dp).lookup ("steps" : Str) = some (.ref sp) := by
  unfold sf
  rw [lookup_putF, if_neg n_st_de, lookup_putF, if_pos rfl]
theorem sf_desc (m : Nat) (sp dp : Addr) : (sf m sp dp).lookup ("descending" : Str) = some (.ref dp) := by
  unfold sf
  rw [lookup_putF, if_pos rfl]
theorem lc_mapR {lo : Int} {n : Nat} {ys : List V} {j : Nat} {te : TE} {vs : List Nat} {σ : L2.St} {H1 : Hp} {D : Addr} {Qd : Hp → Prop} (hD : H1 D = none) (hl : ys.length = n) (hz : n ≤ sizeLine)
    (hw : ∀ x, wipe ((wipe σ vs).set j (some x)) vs = wipe σ vs)
    (he : ∀ (i : Nat) y H', Ex H1 H' → i < n → ys[i]? = some y → ∀ R : VK, (∀ H2, Ex H' H2 → R y H2) → te ((wipe σ vs).set j (some (.int (lo + i)))) H' R)
    (k : ∀ H', Ex H1 H' → H' D = some (.lst ys) → Qd H') :
    ∃ W : Nat → Nat → Hp → Prop, (∃ m, W 0 m (upd H1 D (.lst []))) ∧ ∀ i m H, W i m H →
      ((Itr lo n).stop i H ∧ Qd H) ∨ ((Itr lo n).go i H ∧ ∃ Nx : Hp → Prop, (∀ H', Nx H' → ∃ m', m' < m ∧ W (i + 1) m' H') ∧ ∀ x H', (Itr lo n).yld i H x H' → gName j x (wipe σ vs) H' fun σ2 H2 => wipe σ2 vs = wipe σ vs ∧ tYes σ2 H2 fun b H3 =>
        if b = true then te σ2 H3 fun y H4 => ∃ acc, H4 D = some (.lst acc) ∧ acc.length < sizeLine ∧ Nx (upd H4 D (.lst (acc ++ [y]))) else Nx H3) := by
  refine lc_range (fun i H' => Ex H1 H' ∧ H' D = some (.lst (ys.take i))) ⟨Evl.Ex.new hD, upd_same⟩ (fun i H' hi p => ?_) (fun H' p => k H' p.1 ?_)
  · have hy : ys[i]? = some (ys[i]'(by omega)) := List.getElem?_eq_getElem (by omega)
    refine ⟨hw _, ?_⟩
    show te ((wipe σ vs).set j (some (.int (lo + i)))) H' _
    refine he i _ H' p.1 hi hy _ fun H2 e2 => ⟨ys.take i, e2 _ _ p.2, ?_, ?_⟩
    · rw [List.length_take]
      omega
    · refine ⟨Evl.Ex.mut (p.1.trans e2) hD, ?_⟩
      rw [upd_same, List.take_add_one, hy]
      rfl
  · have := p.2
    rw [List.take_of_length_le (by omega)] at this
    exact this
/-- a comprehension over a tuple, without tests, the element without a trace -/
theorem sf_no (m : Nat) (sp dp : Addr) {x : Str} (h1 : ¬ x = "descending") (h2 : ¬ x = "steps") (h3 : ¬ x = "size") : (sf m sp dp).lookup x = none := by
  unfold sf
  rw [lookup_putF, if_neg h1, lookup_putF, if_neg h2, lookup_putF, if_neg h3]
  rfl
/-- what is chosen, ascending, and what is left -/
def Stl (rows : List (List Int)) (od : List Int) (w : Nat) (G L : List Int) : Prop := ∃ F, Run rows od w (od.length - 1) F L ∧ Fin rows od w F L ∧ G.Perm F ∧ G.Pairwise (· ≤ ·)
theorem Stl.same {rows : List (List Int)} {od : List Int} {w : Nat} {G1 L1 G2 L2 : List Int} (a : Stl rows od w G1 L1) (b : Stl rows od w G2 L2) : G1 = G2 ∧ L1 = L2 := by
  obtain ⟨F1, r1, t1, p1, s1⟩ := a
  obtain ⟨F2, r2, t2, p2, s2⟩ := b
  obtain ⟨h1, h2⟩ := run_same r1 t1 r2 t2
  refine ⟨List.Perm.eq_of_pairwise (fun a b _ _ x y => Int.le_antisymm x y) s1 s2 (p1.trans (List.Perm.trans ?_ p2.symm)), h1⟩
  exact (List.perm_ext_iff_of_nodup r1.nodup r2.nodup).mpr h2
theorem run_fin_len {rows : List (List Int)} {od : List Int} {w m : Nat} {F L F0 L0 : List Int} (r : Run rows od w m F L) (r0 : Run rows od w m F0 L0) (t0 : Fin rows od w F0 L0) : F.length ≤ F0.length := nodup_len r.nodup fun c hc => (r0.into t0 r).1 c hc
def stepL (rows : List (List Int)) (od : List Int) (c : Int) : List Int := (ns (od.length - 1)).map fun s => stp rows od c s
def LiR (H : Hp) (v : V) (r : List Int) : Prop := ∃ q, v = .ref q ∧ H q = some (.lst (r.map V.int))
theorem LiR.extN {H H' : Hp} {v : V} {r : List Int} (h : LiR H v r) (e : ExtN H H') : LiR H' v r := let ⟨q, a, b⟩ := h; ⟨q, a, extN_l e b⟩
theorem LiR.ex {H H' : Hp} {v : V} {r : List Int} (h : LiR H v r) (e : Ex H H') : LiR H' v r := let ⟨q, a, b⟩ := h; ⟨q, a, e _ _ b⟩
/-- spots of an order stand at x -/
def SpO (C : Addr) (H : Hp) (x : Addr) (rows : List (List Int)) (od : List Int) (w : Nat) : Prop := ∃ dx sp dp ss, H x = some (.ins C dx (sf (od.length - 1) sp dp)) ∧ H sp = some (.lst ss) ∧ AllR (fun v c => LiR H v (stepL rows od c)) ss (ns w) ∧ H dp = some (.lst (((ns (od.length - 1)).map (dsc od)).map V.bl))
theorem SpO.extN {C : Addr} {H H' : Hp} {x : Addr} {rows : List (List Int)} {od : List Int} {w : Nat} (h : SpO C H x rows od w) (e : ExtN H H') : SpO C H' x rows od w :=
  let ⟨dx, sp, dp, ss, a, b, c, d⟩ := h; ⟨dx, sp, dp, ss, extN_i e a, extN_l e b, c.mono fun _ _ r => r.extN e, extN_l e d⟩
theorem SpO.ex {C : Addr} {H H' : Hp} {x : Addr} {rows : List (List Int)} {od : List Int} {w : Nat} (h : SpO C H x rows od w) (e : Ex H H') : SpO C H' x rows od w := h.extN (ExtN.of e)
/-- a list of spots -/
structure SpL (K : PySem.W.Frag) (H : Hp) (p : Addr) (S : List Int) (m : Nat) : Prop where
  sq : SqL K H p (S.map V.int)
  inn : ∀ s ∈ S, s ∈ ns m
  few : S.length ≤ 1000
def sp_need_order (K : PySem.W.Frag) : Sp := fun vs H Q _ => ∃ (n : Nat) (p : Addr) (od : List Int), vs = [.int (n : Nat), .ref p] ∧ SqL K H p (od.map V.int) ∧ od.Perm (ns n) ∧ n ≤ 1000 ∧ ∀ H', Ex H H' → Q .non H'
def sp_Spots_is_mixed (K : PySem.W.Frag) (C : Addr) : Sp := fun vs H Q _ => ∃ (x p : Addr) (c : Int) (rows : List (List Int)) (od S : List Int) (w : Nat), vs = [.ref x, .int c, .ref p] ∧ SpO C H x rows od w ∧ c ∈ ns w ∧ SpL K H p S (od.length - 1) ∧ Evl.RetV (.bl (mixB rows od c S)) H Q
def sp_Spots_is_tied (K : PySem.W.Frag) (C : Addr) : Sp := fun vs H Q _ => ∃ (x p : Addr) (c : Int) (rows : List (List Int)) (od S : List Int) (w : Nat), vs = [.ref x, .int c, .ref p] ∧ SpO C H x rows od w ∧ c ∈ ns w ∧ SpL K H p S (od.length - 1) ∧ Evl.RetV (.bl (tieB rows od c S)) H Q
def sp_Spots_bars (K : PySem.W.Frag) (C : Addr) : Sp := fun vs H Q _ => ∃ (x p : Addr) (rows : List (List Int)) (od S : List Int) (w : Nat), vs = [.ref x, .ref p] ∧ SpO C H x rows od w ∧ w ≤ 1000 ∧ SpL K H p S (od.length - 1) ∧ Evl.RetV (.bl (barB rows od w S)) H Q
theorem ns_at {n : Nat} {i : Int} (h : i ∈ ns n) {α : Type} (f : Int → α) : atI ((ns n).map f) i = some (f i) := by
  obtain ⟨j, hj, rfl⟩ := List.mem_map.mp h
  refine atI_nat ?_
  unfold ns
  rw [List.getElem?_map, List.getElem?_map, List.getElem?_range (List.mem_range.mp hj)]
  rfl
theorem step_at {rows : List (List Int)} {od : List Int} {c s : Int} (h : s ∈ ns (od.length - 1)) : atI ((stepL rows od c).map V.int) s = some (.int (stp rows od c s)) := by
  unfold stepL
  rw [List.map_map]
  exact ns_at h _
theorem desc_at {od : List Int} {s : Int} (h : s ∈ ns (od.length - 1)) : atI (((ns (od.length - 1)).map (dsc od)).map V.bl) s = some (.bl (dsc od s)) := by
  rw [List.map_map]
  exact ns_at h _
theorem SpO.row {C : Addr} {H : Hp} {x : Addr} {rows : List (List Int)} {od : List Int} {w : Nat} {ss : List V} (a : AllR (fun v c => LiR H v (stepL rows od c)) ss (ns w)) {c : Int} (hc : c ∈ ns w) : ∃ q, atI ss c = some (.ref q) ∧ H q = some (.lst ((stepL rows od c).map V.int)) := by
  obtain ⟨j, hj, rfl⟩ := List.mem_map.mp hc
  have hj := List.mem_range.mp hj
  have hn : (ns w)[j]? = some (j : Int) := by
    unfold ns
    rw [List.getElem?_map, List.getElem?_range hj]
    rfl
  have hv : ss[j]? = some (ss[j]'(by rw [a.1, ns_len]; exact hj)) := List.getElem?_eq_getElem _
  obtain ⟨q, e, hq⟩ := a.2 j _ _ hv hn
  exact ⟨q, by rw [← e]; exact atI_nat hv, hq⟩
section
variable {w : World} {K : PySem.W.Frag} {mg : Str → Option Value} {base : Heap}
theorem ok_need_order (T : Txt K mg) : FnOk PR w K mg base (L2.CX PR w) 3 T.a_need_order T.d_need_order ["number", "order"] (sp_need_order K) := by
  refine T.f_need_order.okX sc_need_order (fun vs H Q E h => ?_) (fun cdv A outer s H vs Q E hr h => ?_)
  · obtain ⟨n, p, od, rfl, _⟩ := h
    rfl
  · obtain ⟨n, p, od, rfl, hp, pm, hn, k⟩ := h
    refine ⟨_, (pss_one (ps_if (pt_cmpR (op_neD hr.units) (pe_callB cr_sortedG (by rfl) T.z_sorted (by decide +kernel) (pa_cons (pv 1) pa_nil)) (pe_listRgG (by rfl) (by rfl) T.z_list (prg_1 (by rfl) T.z_range (pv 0))) (nomark _)) (pss_one (ps_raise rfl (takes_of rfl rfl rfl rfl) (pmk_err (ok_init T) (b_init T) T.e_InvalidOrder (hr.mono (by decide)) (by rfl) T.g_InvalidOrder (pa_cons (pe_callTy call_listG (by rfl) T.z_list (by decide +kernel) (pa_cons (pv 1) pa_nil)) pa_nil)))) pss_nil)), ?_⟩
    refine ⟨_, rfl, p, od, rfl, hp, fun ns' h1 h2 p1 H1 n1 e1 h3 => ?_⟩
    have e : ns' = ns n := by
      refine List.Perm.eq_of_pairwise (fun a b _ _ x y => Int.le_antisymm x y) h2 ?_ (h1.trans pm)
      unfold ns
      rw [List.pairwise_map]
      exact (List.pairwise_lt_range (n := n)).imp fun h => by omega
    rw [e] at h3
    refine ⟨_, rfl, _, rfl, rgo n (by omega), fun p2 H2 n2 e2 h4 => ?_⟩
    rw [rgV_upN] at h4
    exact neI_ (sqI (e2 _ _ h3)) (ys := ns n) (sqI h4) ⟨_, rfl, ifF same (k H2 (e1.trans e2))⟩
theorem ok_Spots_is_mixed (T : Txt K mg) : FnOk PR w K mg base CX0 1 T.a_Spots_is_mixed T.d_Spots_is_mixed ["self", "column", "spots"] (sp_Spots_is_mixed K T.c_Spots) := by
  refine T.f_Spots_is_mixed.ok sc_Spots_is_mixed (fun vs H Q E h => ?_) (fun cdv A outer s H vs Q E hr h => ?_)
  · obtain ⟨x, p, c, rows, od, S, w, rfl, _⟩ := h
    rfl
  · obtain ⟨x, p, c, rows, od, S, w, rfl, hx, hc, hS, k⟩ := h
    refine ⟨_, (pss_cons (ps_setLc (i := 3) (own := [("spot", 4)]) (g := gName 4) (by rfl) sc_Spots_is_mixed.nd rfl rfl (sw_true rfl rfl rfl (by decide +kernel)) (pi_list (pv 2)) (blkOk_by (own := [("spot", 4)]) (N := ["self", "column", "spots", "steps", "spot", "step"]) (sc := (defScope s_Spots_is_mixed)) (by decide +kernel)) (fun _ _ _ _ _ => (pg_name (i := 4) sc_Spots_is_mixed.nd rfl (by first | exact Or.inl rfl | exact Or.inr rfl))) (fun _ _ _ _ _ => pts_nil) (fun _ _ _ _ _ => (pe_ix (ixK (r := rIxL) (K := K) (by rfl) ix_list) (pe_ix (ixK (r := rIxL) (K := K) (by rfl) ix_list) (pe_fldK (K := K) (by rfl) (pe_fld (pv 0) rfl)) (pv 1) (fun _ _ => rfl)) (pv 4) (fun _ _ => rfl)))) (pss_one (ps_ret (pe_and (pe_callB (cr_any rfl) (by rfl) T.z_any (by decide +kernel) (pa_cons (pe_lc (own := [("step", 5)]) (g := gName 5) (by rfl) sc_Spots_is_mixed.nd (pi_list (pv 3)) (blkOk_by (own := [("step", 5)]) (N := ["self", "column", "spots", "steps", "spot", "step"]) (sc := (defScope s_Spots_is_mixed)) (by decide +kernel)) (fun _ _ _ _ _ => (pg_name (i := 5) sc_Spots_is_mixed.nd rfl (by first | exact Or.inl rfl | exact Or.inr rfl))) (fun _ _ _ _ _ => pts_nil) (fun _ _ _ _ _ => (pe_cmpR op_gt (pv 5) pe_int (nomark _)))) pa_nil)) (pe_one (pe_callB (cr_any rfl) (by rfl) T.z_any (by decide +kernel) (pa_cons (pe_lc (own := [("step", 5)]) (g := gName 5) (by rfl) sc_Spots_is_mixed.nd (pi_list (pv 3)) (blkOk_by (own := [("step", 5)]) (N := ["self", "column", "spots", "steps", "spot", "step"]) (sc := (defScope s_Spots_is_mixed)) (by decide +kernel)) (fun _ _ _ _ _ => (pg_name (i := 5) sc_Spots_is_mixed.nd rfl (by first | exact Or.inl rfl | exact Or.inr rfl))) (fun _ _ _ _ _ => pts_nil) (fun _ _ _ _ _ => (pe_cmpR op_lt (pv 5) pe_int (nomark _)))) pa_nil))))))), ?_⟩
    have few := hS.few
    obtain ⟨dx, sp, dp, ss, h1, h2, h3, h4⟩ := id hx
    refine ⟨_, rfl, p, rfl, ⟨_, hS.sq⟩, fun D hD => lc_mapG (K := K) (a := p) (ys := (S.map fun s => stp rows od c s).map V.int) hS.sq hD (by simp) (by rw [List.length_map]; exact Nat.le_trans few (by decide)) ?_ ?_⟩
    · intro i y z H' e' hy hz N Z kN
      obtain ⟨s, hs, rfl⟩ := mapI_get hy
      rw [List.getElem?_map, List.getElem?_map, hs] at hz
      cases hz
      obtain ⟨q, hq1, hq2⟩ := SpO.row (C := T.c_Spots) (x := x) h3 hc
      refine ⟨rfl, ?_⟩
      show _
      exact ⟨_, rfl, x, _, dx, _, _, rfl, e' _ _ h1, T.cl_Spots, T.na_Spots_steps, sf_steps _ _ _, _, rfl, _, _, _, _, rfl, rfl, sqI (e' _ _ h2), hq1, _, rfl, _, _, _, _, rfl, rfl, sqI (e' _ _ hq2), step_at (hS.inn _ (List.mem_of_getElem? hs)), kN H' (Evl.Ex.refl _)⟩
    intro H1 e1 d1
    refine ⟨_, rfl, D, rfl, ⟨_, sqI d1⟩, fun D2 hD2 => lc_mapG (K := K) (a := D) (ys := (S.map fun s => decide (stp rows od c s > 0)).map V.bl) (sqI d1) hD2 (by simp) (by rw [List.length_map, List.length_map]; exact Nat.le_trans few (by decide)) ?_ ?_⟩
    · intro i y z H' e' hy hz N Z kN
      rw [List.map_map, List.getElem?_map] at hy hz
      cases hs : S[i]? with
      | none =>
        rw [hs] at hy
        cases hy
      | some s =>
        rw [hs] at hy hz
        cases hy
        cases hz
        refine ⟨rfl, ?_⟩
        show _
        exact ⟨_, rfl, _, _, rfl, rfl, kN H' (Evl.Ex.refl _)⟩
    intro H2 e2 d2
    have m1 : mixB rows od c S = ((S.map fun s => decide (stp rows od c s > 0)).any id && (S.map fun s => decide (stp rows od c s < 0)).any id) := by
      unfold mixB
      rw [List.any_map, List.any_map]
      rfl
    rw [m1] at k
    refine ⟨D2, S.map fun s => decide (stp rows od c s > 0), rfl, sqI d2, _, rfl, ?_⟩
    refine ifB (fun z => ?_) (fun z => ?_)
    · rw [z, Bool.true_and] at k
      have d1' := e2 _ _ d1
      refine ⟨_, rfl, D, rfl, ⟨_, sqI d1'⟩, fun D3 hD3 => lc_mapG (K := K) (a := D) (ys := (S.map fun s => decide (stp rows od c s < 0)).map V.bl) (sqI d1') hD3 (by simp) (by rw [List.length_map, List.length_map]; exact Nat.le_trans few (by decide)) ?_ ?_⟩
      · intro i y z H' e' hy hz N Z kN
        rw [List.map_map, List.getElem?_map] at hy hz
        cases hs : S[i]? with
        | none =>
          rw [hs] at hy
          cases hy
        | some s =>
          rw [hs] at hy hz
          cases hy
          cases hz
          refine ⟨rfl, ?_⟩
          show _
          exact ⟨_, rfl, _, _, rfl, rfl, kN H' (Evl.Ex.refl _)⟩
      intro H3 e3 d3
      exact ⟨D3, S.map fun s => decide (stp rows od c s < 0), rfl, sqI d3, k H3 (e1.trans (e2.trans e3))⟩
    · rw [z, Bool.false_and] at k
      exact k H2 (e1.trans e2)
theorem ok_Spots_is_tied (T : Txt K mg) : FnOk PR w K mg base CX0 1 T.a_Spots_is_tied T.d_Spots_is_tied ["self", "column", "spots"] (sp_Spots_is_tied K T.c_Spots) := by
  refine T.f_Spots_is_tied.ok sc_Spots_is_tied (fun vs H Q E h => ?_) (fun cdv A outer s H vs Q E hr h => ?_)
  · obtain ⟨x, p, c, rows, od, S, w, rfl, _⟩ := h
    rfl
  · obtain ⟨x, p, c, rows, od, S, w, rfl, hx, hc, hS, k⟩ := h
    refine ⟨_, (pss_one (ps_ret (pe_callB (cr_all rfl) (by rfl) T.z_all (by decide +kernel) (pa_cons (pe_lc (own := [("spot", 3)]) (g := gName 3) (by rfl) sc_Spots_is_tied.nd (pi_list (pv 2)) (blkOk_by (own := [("spot", 3)]) (N := ["self", "column", "spots", "spot"]) (sc := (defScope s_Spots_is_tied)) (by decide +kernel)) (fun _ _ _ _ _ => (pg_name (i := 3) sc_Spots_is_tied.nd rfl (by first | exact Or.inl rfl | exact Or.inr rfl))) (fun _ _ _ _ _ => pts_nil) (fun _ _ _ _ _ => (pe_cmpR op_eq (pe_ix (ixK (r := rIxL) (K := K) (by rfl) ix_list) (pe_ix (ixK (r := rIxL) (K := K) (by rfl) ix_list) (pe_fldK (K := K) (by rfl) (pe_fld (pv 0) rfl)) (pv 1) (fun _ _ => rfl)) (pv 3) (fun _ _ => rfl)) pe_int (nomark _)))) pa_nil)))), ?_⟩
    have few := hS.few
    obtain ⟨dx, sp, dp, ss, h1, h2, h3, h4⟩ := id hx
    refine ⟨_, rfl, p, rfl, ⟨_, hS.sq⟩, fun D hD => lc_mapG (K := K) (a := p) (ys := (S.map fun s => decide (stp rows od c s = 0)).map V.bl) hS.sq hD (by simp) (by rw [List.length_map]; exact Nat.le_trans few (by decide)) ?_ ?_⟩
    · intro i y z H' e' hy hz N Z kN
      obtain ⟨s, hs, rfl⟩ := mapI_get hy
      rw [List.getElem?_map, List.getElem?_map, hs] at hz
      cases hz
      obtain ⟨q, hq1, hq2⟩ := SpO.row (C := T.c_Spots) (x := x) h3 hc
      refine ⟨rfl, ?_⟩
      show _
      refine ⟨_, rfl, x, _, dx, _, _, rfl, e' _ _ h1, T.cl_Spots, T.na_Spots_steps, sf_steps _ _ _, _, rfl, _, _, _, _, rfl, rfl, sqI (e' _ _ h2), hq1, _, rfl, _, _, _, _, rfl, rfl, sqI (e' _ _ hq2), step_at (hS.inn _ (List.mem_of_getElem? hs)), rfl, ?_⟩
      rw [decInt]
      exact kN H' (Evl.Ex.refl _)
    intro H1 e1 d1
    have m1 : tieB rows od c S = (S.map fun s => decide (stp rows od c s = 0)).all id := by
      unfold tieB
      rw [List.all_map]
      rfl
    rw [m1] at k
    exact ⟨D, _, rfl, sqI d1, k H1 e1⟩
theorem ok_Spots_bars (T : Txt K mg) : FnOk PR w K mg base CX0 3 T.a_Spots_bars T.d_Spots_bars ["self", "spots"] (sp_Spots_bars K T.c_Spots) := by
  refine T.f_Spots_bars.ok sc_Spots_bars (fun vs H Q E h => ?_) (fun cdv A outer s H vs Q E hr h => ?_)
  · obtain ⟨x, p, rows, od, S, w, rfl, _⟩ := h
    rfl
  · obtain ⟨x, p, rows, od, S, w, rfl, hx, hw, hS, k⟩ := h
    refine ⟨_, (pss_cons (ps_if (pt_not (pt_val (pe_callB (cr_any rfl) (by rfl) T.z_any (by decide +kernel) (pa_cons (pe_lc (own := [("spot", 2)]) (g := gName 2) (by rfl) sc_Spots_bars.nd (pi_list (pv 1)) (blkOk_by (own := [("spot", 2)]) (N := ["self", "spots", "spot", "column"]) (sc := (defScope s_Spots_bars)) (by decide +kernel)) (fun _ _ _ _ _ => (pg_name (i := 2) sc_Spots_bars.nd rfl (by first | exact Or.inl rfl | exact Or.inr rfl))) (fun _ _ _ _ _ => pts_nil) (fun _ _ _ _ _ => (pe_ix (ixK (r := rIxL) (K := K) (by rfl) ix_list) (pe_fldK (K := K) (by rfl) (pe_fld (pv 0) rfl)) (pv 2) (fun _ _ => rfl)))) pa_nil)))) (pss_one (ps_ret pe_bl)) pss_nil) (pss_one (ps_ret (pe_callB (cr_all rfl) (by rfl) T.z_all (by decide +kernel) (pa_cons (pe_lc (own := [("column", 3)]) (g := gName 3) (by rfl) sc_Spots_bars.nd (pi_range1 (by rfl) T.z_range (pa_cons (pe_callB call_len_seq (by rfl) T.z_len PySem.boot_len (pa_cons (pe_fld (pv 0) rfl) pa_nil)) pa_nil)) (blkOk_by (own := [("column", 3)]) (N := ["self", "spots", "spot", "column"]) (sc := (defScope s_Spots_bars)) (by decide +kernel)) (fun _ _ _ _ _ => (pg_name (i := 3) sc_Spots_bars.nd rfl (by first | exact Or.inl rfl | exact Or.inr rfl))) (fun _ _ _ _ _ => pts_nil) (fun _ _ _ _ _ => (pe_or (pe_meth (pv 0) T.cl_Spots T.m_Spots_is_tied (ok_Spots_is_tied T) (hr.mono (by decide)) (b_Spots_is_tied T) .nil pass0 (pa_cons (pv 3) (pa_cons (pv 1) pa_nil))) (pe_one (pe_meth (pv 0) T.cl_Spots T.m_Spots_is_mixed (ok_Spots_is_mixed T) (hr.mono (by decide)) (b_Spots_is_mixed T) .nil pass0 (pa_cons (pv 3) (pa_cons (pv 1) pa_nil))))))) pa_nil))))), ?_⟩
    have few := hS.few
    obtain ⟨dx, sp, dp, ss, h1, h2, h3, h4⟩ := id hx
    refine ⟨_, rfl, p, rfl, ⟨_, hS.sq⟩, fun D hD => lc_mapG (K := K) (a := p) (ys := (S.map (dsc od)).map V.bl) hS.sq hD (by simp) (by rw [List.length_map]; exact Nat.le_trans few (by decide)) ?_ ?_⟩
    · intro i y z H' e' hy hz N Z kN
      obtain ⟨s, hs, rfl⟩ := mapI_get hy
      rw [List.getElem?_map, List.getElem?_map, hs] at hz
      cases hz
      refine ⟨rfl, ?_⟩
      show _
      exact ⟨_, rfl, x, _, dx, _, _, rfl, e' _ _ h1, T.cl_Spots, T.na_Spots_descending, sf_desc _ _ _, _, rfl, _, _, _, _, rfl, rfl, sqI (e' _ _ h4), desc_at (hS.inn _ (List.mem_of_getElem? hs)), kN H' (Evl.Ex.refl _)⟩
    intro H1 e1 d1
    have m1 : barB rows od w S = ((S.map (dsc od)).any id && colB rows od w S) := by
      unfold barB
      rw [List.any_map]
      rfl
    rw [m1] at k
    refine ⟨D, _, rfl, sqI d1, _, rfl, ?_⟩
    have x1 := hx.ex e1
    have sl : ss.length = w := by rw [h3.1, ns_len]
    cases hz : (S.map (dsc od)).any id with
    | false =>
      refine ifT rfl ?_
      rw [hz, Bool.false_and] at k
      exact k H1 e1
    | true =>
      refine ifF rfl ?_
      rw [hz, Bool.true_and] at k
      refine ⟨_, rfl, x, _, dx, _, _, rfl, e1 _ _ h1, T.cl_Spots, T.na_Spots_steps, sf_steps _ _ _, _, _, rfl, .inl (sqI (e1 _ _ h2)), ?_⟩
      rw [sl]
      refine ⟨_, rfl, by omega, by omega, fun D2 hD2 => lc_mapR (n := ((w : Nat) : Int).toNat) (ys := ((ns w).map fun c => tieB rows od c S || mixB rows od c S).map V.bl) hD2 (by rw [List.length_map, List.length_map, ns_len]; omega) (Nat.le_trans (show _ ≤ 1000 by omega) (by decide)) (fun x => rfl) ?_ ?_⟩
      · intro i y H' e' hi hy R kR
        have hi : i < w := by omega
        have hin : (0 : Int) + (i : Int) ∈ ns w := List.mem_map.mpr ⟨i, List.mem_range.mpr hi, (Int.zero_add _).symm⟩
        have hyv : y = .bl (tieB rows od (0 + (i : Int)) S || mixB rows od (0 + (i : Int)) S) := by
          unfold ns at hy
          rw [List.getElem?_map, List.getElem?_map, List.getElem?_map, List.getElem?_range hi] at hy
          cases hy
          rw [Int.zero_add]
        rw [hyv] at kR
        have x' := x1.ex e'
        have S' : SpL K H' p S (od.length - 1) := ⟨Evl.ex_l (e1.trans e') hS.sq, hS.inn, hS.few⟩
        refine ⟨_, rfl, x, dx, _, rfl, (e1.trans e') _ _ h1, sf_no _ _ _ (by decide +kernel) (by decide +kernel) (by decide +kernel), _, rfl, _, rfl, x, p, 0 + (i : Int), rows, od, S, w, rfl, x', hin, S', fun H3 e3 => ?_⟩
        refine ⟨_, rfl, ?_⟩
        refine ifB (fun z => ?_) (fun z => ?_)
        · rw [z, Bool.true_or] at kR
          exact kR H3 e3
        · rw [z, Bool.false_or] at kR
          refine ⟨_, rfl, x, dx, _, rfl, (e1.trans (e'.trans e3)) _ _ h1, sf_no _ _ _ (by decide +kernel) (by decide +kernel) (by decide +kernel), _, rfl, _, rfl, x, p, 0 + (i : Int), rows, od, S, w, rfl, x'.ex e3, hin, ⟨Evl.ex_l e3 S'.sq, hS.inn, hS.few⟩, fun H4 e4 => kR H4 (e3.trans e4)⟩
      intro H2 e2 d2
      have m2 : colB rows od w S = ((ns w).map fun c => tieB rows od c S || mixB rows od c S).all id := by
        unfold colB
        rw [List.all_map]
        rfl
      rw [m2] at k
      exact ⟨D2, _, rfl, sqI d2, k H2 (e1.trans e2)⟩
end
end K13
set_option Elab.async false
set_option pp.maxSteps 1200
set_option linter.all false
set_option maxRecDepth 100000
set_option maxHeartbeats 8000000
namespace K13
open PySem L2 My
open LamX (ExtN Tabs)
def sp_Spots_settled (C : Addr) : Sp := fun vs H Q _ => ∃ (x : Addr) (rows : List (List Int)) (od : List Int) (w : Nat), vs = [.ref x] ∧ SpO C H x rows od w ∧ w ≤ 100 ∧ od.length ≤ 100 ∧
  ∀ t a b G L H', H a = none → H b = none → a ≠ b → Ex H H' → H' t = some (.tup [.ref a, .ref b]) → H' a = some (.lst (G.map V.int)) → H' b = some (.lst (L.map V.int)) → Stl rows od w G L → Q (.ref t) H'
theorem ns_len_le {S : List Int} {m : Nat} {rows : List (List Int)} {od : List Int} {w : Nat} {F L : List Int} (r : Run rows od w m F L) : L.length ≤ m := by
  rw [r.left]
  exact Nat.le_trans (List.length_filter_le _ _) (by rw [ns_len]; exact Nat.le_refl _)
theorem Run.inn {m : Nat} {rows : List (List Int)} {od : List Int} {w : Nat} {F L : List Int} (r : Run rows od w m F L) : ∀ s ∈ L, s ∈ ns m := fun s hs => by
  rw [r.left] at hs
  exact (List.mem_filter.mp hs).1
section
variable {w : World} {K : PySem.W.Frag} {mg : Str → Option Value} {base : Heap}
theorem ok_Spots_settled (T : Txt K mg) : FnOk PR w K mg base CX0 3 T.a_Spots_settled T.d_Spots_settled ["self"] (sp_Spots_settled T.c_Spots) := by
  refine T.f_Spots_settled.ok sc_Spots_settled (fun vs H Q E h => ?_) (fun cdv A outer s H vs Q E hr h => ?_)
  · obtain ⟨x, rows, od, w, rfl, _⟩ := h
    rfl
  · obtain ⟨x, rows, od, w, rfl, hx, hw, ho, k⟩ := h
    refine ⟨_, (pss_cons (ps_par (by rfl) sc_Spots_settled.nd rfl rfl (by decide) rfl rfl (i := 1) (j := 2) (pa_cons (pe_lstG pa_nil) (pa_cons (pe_listRgG (by rfl) (by rfl) T.z_list (prg_1 (by rfl) T.z_range (pe_fld (pv 0) rfl))) pa_nil)) (by rfl)) (pss_cons (ps_for PassesOwn.never rfl (pi_range1 (by rfl) T.z_range (pa_cons (pe_callB call_len_seq (by rfl) T.z_len PySem.boot_len (pa_cons (pe_fld (pv 0) rfl) pa_nil)) pa_nil)) (pg_name (i := 3) sc_Spots_settled.nd rfl (by first | exact Or.inl rfl | exact Or.inr rfl)) (pss_one (ps_for PassesOwn.never rfl (pi_range1 (by rfl) T.z_range (pa_cons (pe_callB call_len_seq (by rfl) T.z_len PySem.boot_len (pa_cons (pe_fld (pv 0) rfl) pa_nil)) pa_nil)) (pg_name (i := 4) sc_Spots_settled.nd rfl (by first | exact Or.inl rfl | exact Or.inr rfl)) (pss_one (ps_if (PW.pt (pw_and (pt_cmpR op_notIn_seq (pv 4) (pv 1) (by rfl)) (pw_and1 (pt_not (pt_val (pe_meth (pv 0) T.cl_Spots T.m_Spots_is_mixed (ok_Spots_is_mixed T) (hr.mono (by decide)) (b_Spots_is_mixed T) .nil pass0 (pa_cons (pv 4) (pa_cons (pv 2) pa_nil)))))))) (pss_cons (ps_expr (pe_bm PySem.F.plainAttrs_list PySem.F.slot_list_append PySem.F.type_list_append mt_append (pv 1) (pa_cons (pv 4) pa_nil))) (pss_one (ps_setLc (i := 2) (own := [("spot", 5)]) (g := gName 5) (by rfl) sc_Spots_settled.nd rfl rfl (sw_true rfl rfl rfl (by decide +kernel)) (pi_list (pv 2)) (blkOk_by (own := [("spot", 5)]) (N := ["self", "found", "left", "turn", "column", "spot"]) (sc := (defScope s_Spots_settled)) (by decide +kernel)) (fun _ _ _ _ _ => (pg_name (i := 5) sc_Spots_settled.nd rfl (by first | exact Or.inl rfl | exact Or.inr rfl))) (fun _ _ _ _ _ => (pts_one (pt_cmpR op_eq (pe_ix (ixK (r := rIxL) (K := K) (by rfl) ix_list) (pe_ix (ixK (r := rIxL) (K := K) (by rfl) ix_list) (pe_fldK (K := K) (by rfl) (pe_fld (pv 0) rfl)) (pv 4) (fun _ _ => rfl)) (pv 5) (fun _ _ => rfl)) pe_int (nomark _)))) (fun _ _ _ _ _ => (pv 5))))) pss_nil))))) (pss_one (ps_ret (pe_tupG (pa_cons (pe_callB cr_sortedG (by rfl) T.z_sorted (by decide +kernel) (pa_cons (pv 1) pa_nil)) (pa_cons (pv 2) pa_nil))))))), ?_⟩
    obtain ⟨dx, sp, dp, ss, h1, h2, h3, h4⟩ := id hx
    have sl : ss.length = w := by rw [h3.1, ns_len]
    refine ⟨(by show 0 ≤ sizeLine; decide), fun fo H1 n1 e1 hfo => ?_⟩
    refine ⟨_, rfl, x, _, dx, _, _, rfl, e1 _ _ h1, T.cl_Spots, T.na_Spots_size, sf_size _ _ _, _, rfl, rgo (od.length - 1) (by omega), fun l0 H2 n2 e2 hl0 => ?_⟩
    have hl0 : H2 l0 = some (.lst ((ns (od.length - 1)).map V.int)) := by rw [hl0, rgV_upN]; rfl
    refine ⟨_, _, rfl, ?_⟩
    have e02 := e1.trans e2
    refine ⟨_, rfl, x, _, dx, _, _, rfl, e02 _ _ h1, T.cl_Spots, T.na_Spots_steps, sf_steps _ _ _, _, _, rfl, .inl (sqI (e02 _ _ h2)), ?_⟩
    rw [sl]
    have x2 := hx.ex e02
    have nl : H l0 = none := Ex_back e1 n2
    refine ⟨_, rfl, by omega, by omega, for_range (lo := 0) (n := ((w : Nat) : Int).toNat) (fun i σ H' => ∃ (le : Addr) (v3 v4 : Option V) (F L : List Int), σ = [some (.ref x), some (.ref fo), some (.ref le), v3, v4, none] ∧ Ex H H' ∧ H' fo = some (.lst (F.map V.int)) ∧ H' le = some (.lst (L.map V.int)) ∧ H le = none ∧ le ≠ fo ∧ Run rows od w (od.length - 1) F L ∧ (i ≤ F.length ∨ Fin rows od w F L)) ⟨l0, _, _, [], ns (od.length - 1), rfl, e02, e2 _ _ hfo, hl0, nl, (ne_of_none hfo n2).symm, .nil, .inl (Nat.le_refl _)⟩ ?_ ?_⟩
    · rintro i σ H3 hi ⟨l1, v3, v4, F0, L0, rfl, e3, f3, g3, nl1, nlf, r0, or0⟩
      refine ⟨_, rfl, x, _, dx, _, _, rfl, e3 _ _ h1, T.cl_Spots, T.na_Spots_steps, sf_steps _ _ _, _, _, rfl, .inl (sqI (e3 _ _ h2)), ?_⟩
      rw [sl]
      refine ⟨_, rfl, by omega, by omega, for_range (lo := 0) (n := ((w : Nat) : Int).toNat) (fun c σ H' => ∃ (le : Addr) (v4 : Option V) (F L : List Int), σ = [some (.ref x), some (.ref fo), some (.ref le), some (.int (0 + (i : Int))), v4, none] ∧ Ex H H' ∧ H' fo = some (.lst (F.map V.int)) ∧ H' le = some (.lst (L.map V.int)) ∧ H le = none ∧ le ≠ fo ∧ Run rows od w (od.length - 1) F L ∧ ((F = F0 ∧ L = L0 ∧ ∀ c' : Nat, c' < c → (c' : Int) ∉ F0 → mixB rows od (c' : Int) L0 = true) ∨ F0.length < F.length)) ⟨l1, _, F0, L0, rfl, e3, f3, g3, nl1, nlf, r0, .inl ⟨rfl, rfl, fun c' h => nomatch h⟩⟩ ?_ ?_⟩
      · rintro c σ H4 hc ⟨le, v4, F, L, rfl, e4, f4, g4, nle, nlef, r, alt⟩
        have hc : c < w := by omega
        have cin : (c : Int) ∈ ns w := List.mem_map.mpr ⟨c, List.mem_range.mpr hc, rfl⟩
        have ec : (0 : Int) + (c : Int) = (c : Int) := Int.zero_add _
        refine ⟨_, rfl, _, rfl, _, _, rfl, .inl (sqI f4), rfl, flatI F, _, rfl, ?_⟩
        rw [inV_int, ec]
        have skip : ((c : Int) ∈ F ∨ mixB rows od (c : Int) L = true) → ((F = F0 ∧ L = L0 ∧ ∀ c' : Nat, c' < c + 1 → (c' : Int) ∉ F0 → mixB rows od (c' : Int) L0 = true) ∨ F0.length < F.length) := fun h => by
          rcases alt with ⟨rfl, rfl, al⟩ | lt
          · refine .inl ⟨rfl, rfl, fun c' hc' nf => ?_⟩
            by_cases z : c' = c
            · subst z
              exact h.resolve_left nf
            · exact al c' (by omega) nf
          · exact .inr lt
        refine ifB (fun z => ?_) (fun z => ?_)
        · have nf : (c : Int) ∉ F := by simpa using z
          have S4 : SpL K H4 le L (od.length - 1) := ⟨sqI g4, r.inn, Nat.le_trans (ns_len_le (S := []) r) (by omega)⟩
          have x4 := hx.ex e4
          refine ⟨_, rfl, x, dx, _, rfl, e4 _ _ h1, sf_no _ _ _ (by decide +kernel) (by decide +kernel) (by decide +kernel), _, rfl, _, rfl, x, le, (c : Int), rows, od, L, w, rfl, x4, cin, S4, fun H5 e5 => ?_⟩
          refine ⟨_, rfl, ?_⟩
          refine ifB (fun y => ?_) (fun y => ?_)
          · have nm : mixB rows od (c : Int) L = false := by simpa using y
            have f5 := e5 _ _ f4
            have fl := r.len
            have e05 := e4.trans e5
            refine ⟨_, rfl, .inl ⟨rfl, _, sqI f5⟩, _, rfl, _, _, _, rfl, rfl, f5, ?_, ?_⟩
            · rw [List.length_map]
              exact Nat.lt_of_le_of_lt (show F.length ≤ 100 by omega) (by decide)
            have e06 : Ex H (L2.upd H5 fo (.lst (F.map V.int ++ [.int (c : Int)]))) := fun b o hb => by
              rw [upd_ne (ne_of_none hb n1)]
              exact e05 b o hb
            have f6 : L2.upd H5 fo (.lst (F.map V.int ++ [.int (c : Int)])) fo = some (.lst ((F ++ [(c : Int)]).map V.int)) := by
              rw [upd_same, List.map_append]
              rfl
            have g6 : L2.upd H5 fo (.lst (F.map V.int ++ [.int (c : Int)])) le = some (.lst (L.map V.int)) := by
              rw [upd_ne nlef]
              exact e5 _ _ g4
            generalize L2.upd H5 fo (.lst (F.map V.int ++ [.int (c : Int)])) = H6 at e06 f6 g6 ⊢
            obtain ⟨q, hq1, hq2⟩ := SpO.row (C := T.c_Spots) (x := x) h3 cin
            refine ⟨_, rfl, le, rfl, ⟨_, sqI g6⟩, fun D hD => lc_filtI (ns := L) (p := fun s => decide (stp rows od (c : Int) s = 0)) (sqI g6) hD S4.few (fun x => rfl) ?_ ?_ ?_⟩
            · intro s H7 hs e7 R kR
              have e07 := e06.trans e7
              refine ⟨_, rfl, x, _, dx, _, _, rfl, e07 _ _ h1, T.cl_Spots, T.na_Spots_steps, sf_steps _ _ _, _, rfl, _, _, _, _, rfl, rfl, sqI (e07 _ _ h2), hq1, _, rfl, _, _, _, _, rfl, rfl, sqI (e07 _ _ hq2), step_at (r.inn s hs), rfl, _, rfl, ?_⟩
              rw [decInt]
              exact kR H7 (Evl.Ex.refl _)
            · intro n H' N hN
              exact ⟨_, rfl, hN⟩
            · intro H7 e7 d7
              have nD : D ≠ fo := (ne_of_none f6 hD).symm
              exact ⟨D, _, F ++ [(c : Int)], cutS rows od (c : Int) L, rfl, e06.trans e7, e7 _ _ f6, d7, Ex_back e06 hD, nD, .snoc r cin nf nm, .inr (by
                rw [List.length_append]
                rcases alt with ⟨rfl, rfl, _⟩ | lt
                · show _ < _ + 1
                  omega
                · show _ < _ + 1
                  omega)⟩
          · have mx : mixB rows od (c : Int) L = true := by simpa using y
            exact ⟨le, _, F, L, rfl, e4.trans e5, e5 _ _ f4, e5 _ _ g4, nle, nlef, r, skip (.inr mx)⟩
        · have z : (c : Int) ∈ F := by simpa using z
          exact ⟨le, _, F, L, rfl, e4, f4, g4, nle, nlef, r, skip (.inl z)⟩
      · rintro σ H4 ⟨le, v4, F, L, rfl, e4, f4, g4, nle, nlef, r, alt⟩
        refine ⟨le, _, _, F, L, rfl, e4, f4, g4, nle, nlef, r, ?_⟩
        rcases alt with ⟨rfl, rfl, al⟩ | lt
        · refine .inr fun c hc nf => ?_
          obtain ⟨c', hc', rfl⟩ := List.mem_map.mp hc
          exact al c' (by have := List.mem_range.mp hc'; omega) nf
        · rcases or0 with z | z
          · exact .inl (by omega)
          · have := run_fin_len r r0 z
            omega
    · rintro σ H3 ⟨le, v3, v4, F, L, rfl, e3, f3, g3, nle, nlf, r, or0⟩
      have fin : Fin rows od w F L := by
        rcases or0 with z | z
        · have := r.len
          exact r.full (by omega)
        · exact z
      refine ⟨_, rfl, fo, F, rfl, sqI f3, fun ns' q1 q2 a H4 n4 e4 h5 => ?_⟩
      refine ⟨_, rfl, (by show 2 ≤ sizeLine; decide), fun t H5 n5 e5 ht => ?_⟩
      exact k t a le ns' L H5 (Ex_back e3 n4) nle (ne_of_none g3 n4).symm (e3.trans (e4.trans e5)) ht (e5 _ _ h5) ((e4.trans e5) _ _ g3) ⟨F, r, fin, q1, q2⟩
end
end K13
set_option Elab.async false
set_option pp.maxSteps 1200
set_option linter.all false
set_option maxRecDepth 100000
set_option maxHeartbeats 8000000
namespace K13
open PySem L2 My
open LamX (ExtN Tabs)
theorem mkObj {C : Addr} {H : Hp} {sp : Sp} {vs : List V} {E : XK} {Q : VK} {R : Hp → Addr → Prop}
    (h : ∀ x dx H0, H x = none → Ex H H0 → H0 x = some (.ins C dx []) → (∀ H', Exj x H0 H' → R H' x → Q (.ref x) H') → sp (.ref x :: vs) H0 (fun v H2 => v = .non ∧ Q (.ref x) H2) E)
    (k : ∀ x H', H x = none → Ex H H' → R H' x → Q (.ref x) H') :
    ∀ x dx, H x = none → H dx = none → dx ≠ x → sp (.ref x :: vs) (upd (upd H dx (.own x)) x (.ins C dx [])) (fun v H2 => v = .non ∧ Q (.ref x) H2) E := by
  intro x dx hx hdx ne
  have e : Ex H (upd (upd H dx (.own x)) x (.ins C dx [])) := fun b o hb => by
    rw [upd_ne (ne_of_none hb hx), upd_ne (ne_of_none hb hdx)]
    exact hb
  exact h x dx _ hx e upd_same fun H' e' t => k x H' hx (fun b o hb => e' b o (ne_of_none hb hx) (e b o hb)) t
def pairL (od : List Int) : List Ky := (ns (od.length - 1)).map fun s => (odV od s, odV od (s + 1))
/-- a pair, not at D -/
def PrD (D : Addr) (H : Hp) (v : V) (k : Ky) : Prop := ∃ q, v = .ref q ∧ q ≠ D ∧ H q = some (.tup [.int k.1, .int k.2])
theorem PrD.exj {D : Addr} {H H' : Hp} {v : V} {k : Ky} (h : PrD D H v k) (e : Exj D H H') : PrD D H' v k := let ⟨q, a, n, b⟩ := h; ⟨q, a, n, e _ _ n b⟩
/-- a list of ints, not at D -/
def LiD (D : Addr) (H : Hp) (v : V) (r : List Int) : Prop := ∃ q, v = .ref q ∧ q ≠ D ∧ H q = some (.lst (r.map V.int))
theorem LiD.exj {D : Addr} {H H' : Hp} {v : V} {r : List Int} (h : LiD D H v r) (e : Exj D H H') : LiD D H' v r := let ⟨q, a, n, b⟩ := h; ⟨q, a, n, e _ _ n b⟩
def sp_Spots___init__ (K : PySem.W.Frag) (C CT : Addr) : Sp := fun vs H Q _ => ∃ (x dx t p : Addr) (w : Nat) (rows : List (List Int)) (od : List Int), vs = [.ref x, .ref t, .ref p] ∧ H x = some (.ins C dx []) ∧ Tab CT H t w rows ∧ SqL K H p (od.map V.int) ∧ od.Perm (ns rows.length) ∧ rows.length ≤ 100 ∧ w ≤ 100 ∧ ∀ H', Exj x H H' → SpO C H' x rows od w → Q .non H'
theorem sql_exi {K : PySem.W.Frag} {H H' : Hp} {x C dx p : Addr} {fs : List (Str × V)} {xs : List V} (e : Exj x H H') (hx : H x = some (.ins C dx fs)) : SqL K H p xs → SqL K H' p xs
  | .inl (.inl h) => .inl (.inl (e _ _ (fun z => by rw [z, hx] at h; cases h) h))
  | .inl (.inr ⟨o, h⟩) => .inl (.inr ⟨o, e _ _ (fun z => by rw [z, hx] at h; cases h) h⟩)
  | .inr h => .inr h
theorem lst_exi {H H' : Hp} {x C dx p : Addr} {fs : List (Str × V)} {xs : List V} (e : Exj x H H') (hx : H x = some (.ins C dx fs)) (h : H p = some (.lst xs)) : H' p = some (.lst xs) := e _ _ (fun z => by rw [z, hx] at h; cases h) h
theorem tup_exi {H H' : Hp} {x C dx p : Addr} {fs : List (Str × V)} {xs : List V} (e : Exj x H H') (hx : H x = some (.ins C dx fs)) (h : H p = some (.tup xs)) : H' p = some (.tup xs) := e _ _ (fun z => by rw [z, hx] at h; cases h) h
theorem tab_exi {H H' : Hp} {x C CT dx t : Addr} {w : Nat} {rows : List (List Int)} {fs : List (Str × V)} (e : Exj x H H') (hx : H x = some (.ins C dx fs)) (hw : fs.lookup ("wide" : Str) = none) (h : Tab CT H t w rows) : Tab CT H' t w rows := by
  obtain ⟨dx', cr, rs, a, b, c, d⟩ := h
  refine ⟨dx', cr, rs, e _ _ (fun z => ?_) a, tup_exi e hx b, ⟨c.1, fun i v r h1 h2 => let ⟨q, z1, z2⟩ := c.2 i v r h1 h2; ⟨q, z1, tup_exi e hx z2⟩⟩, d⟩
  rw [z, hx] at a
  have := tf_wide w cr
  cases a
  rw [hw] at this
  cases this
theorem pair_at {od : List Int} {i : Nat} (h : i < od.length - 1) : (pairL od)[i]? = some (odV od (i : Int), odV od ((i : Int) + 1)) := by
  unfold pairL ns
  rw [List.getElem?_map, List.getElem?_map, List.getElem?_range h]
  rfl
theorem pair_len (od : List Int) : (pairL od).length = od.length - 1 := by
  unfold pairL
  rw [List.length_map, ns_len]
theorem od_at {od : List Int} {s : Int} (h : s ∈ ns od.length) : atI (od.map V.int) s = some (.int (odV od s)) := by
  obtain ⟨i, hi, rfl⟩ := List.mem_map.mp h
  have hi := List.mem_range.mp hi
  refine atI_nat ?_
  unfold odV
  rw [List.getElem?_map, Int.toNat_natCast, List.getD_eq_getElem?_getD, List.getElem?_eq_getElem hi]
  rfl
theorem od_mem {rows : List (List Int)} {od : List Int} (pm : od.Perm (ns rows.length)) {s : Int} (h : s ∈ ns od.length) : odV od s ∈ ns rows.length := by
  obtain ⟨i, hi, rfl⟩ := List.mem_map.mp h
  have hi := List.mem_range.mp hi
  refine pm.mem_iff.mp ?_
  unfold odV
  rw [Int.toNat_natCast, List.getD_eq_getElem?_getD, List.getElem?_eq_getElem hi]
  exact List.getElem_mem hi
theorem col_at {rows : List (List Int)} {c i : Int} (h : i ∈ ns rows.length) : atI ((colOf rows c.toNat).map V.int) i = some (.int (cellV rows i c)) := by
  obtain ⟨j, hj, rfl⟩ := List.mem_map.mp h
  have hj := List.mem_range.mp hj
  refine atI_nat ?_
  unfold colOf cellV
  rw [List.getElem?_map, List.getElem?_map, List.getElem?_eq_getElem hj, Int.toNat_natCast, List.getD_eq_getElem?_getD (l := rows), List.getElem?_eq_getElem hj]
  rfl
section
variable {w : World} {K : PySem.W.Frag} {mg : Str → Option Value} {base : Heap}
theorem ok_Spots___init__ (T : Txt K mg) : FnOk PR w K mg base (L2.CX PR w) 6 T.a_Spots___init__ T.d_Spots___init__ ["self", "table", "order"] (sp_Spots___init__ K T.c_Spots T.c_Table) := by
  refine T.f_Spots___init__.okX sc_Spots___init__ (fun vs H Q E h => ?_) (fun cdv A outer s H vs Q E hr h => ?_)
  · obtain ⟨x, dx, t, p, w, rows, od, rfl, _⟩ := h
    rfl
  · obtain ⟨x, dx, t, p, w, rows, od, rfl, hx, ht, hp, pm, hl, hw, k⟩ := h
    refine ⟨_, (pss_cons (ps_fld (pv 0) (pe_callB (call_max2 rfl) (by rfl) T.z_max (by decide +kernel) (pa_cons pe_int (pa_cons (pe_op op_sub (pe_callB call_len_seq (by rfl) T.z_len PySem.boot_len (pa_cons (pv 2) pa_nil)) pe_int) pa_nil))) rfl) (pss_cons (ps_set (i := 3) sc_Spots___init__.nd rfl (by first | exact Or.inl rfl | exact Or.inr rfl) (pe_lc (own := [("at", 5)]) (g := gName 5) (by rfl) sc_Spots___init__.nd (pi_range1 (by rfl) T.z_range (pa_cons (pe_fld (pv 0) rfl) pa_nil)) (blkOk_by (own := [("at", 5)]) (N := ["self", "table", "order", "pairs", "columns", "at", "column", "own", "row", "later"]) (sc := (defScope s_Spots___init__)) (by decide +kernel)) (fun _ _ _ _ _ => (pg_name (i := 5) sc_Spots___init__.nd rfl (by first | exact Or.inl rfl | exact Or.inr rfl))) (fun _ _ _ _ _ => pts_nil) (fun _ _ _ _ _ => (pe_tupG (pa_cons (pe_ix (ixK (r := rIxL) (K := K) (by rfl) ix_list) (pv 2) (pv 5) (fun _ _ => rfl)) (pa_cons (pe_ix (ixK (r := rIxL) (K := K) (by rfl) ix_list) (pv 2) (pe_op op_add (pv 5) pe_int) (fun _ _ => rfl)) pa_nil)))))) (pss_cons (ps_setLc (i := 4) (own := [("column", 6)]) (g := gName 6) (by rfl) sc_Spots___init__.nd rfl rfl (sw_true rfl rfl rfl (by decide +kernel)) (pi_range1 (by rfl) T.z_range (pa_cons (pe_prop (pv 1) T.cl_Table T.p_Table_width (ok_Table_width T) (hr.mono (by decide)) (b_Table_width T) .nil pass0 (by rfl)) pa_nil)) (blkOk_by (own := [("column", 6)]) (N := ["self", "table", "order", "pairs", "columns", "at", "column", "own", "row", "later"]) (sc := (defScope s_Spots___init__)) (by decide +kernel)) (fun _ _ _ _ _ => (pg_name (i := 6) sc_Spots___init__.nd rfl (by first | exact Or.inl rfl | exact Or.inr rfl))) (fun _ _ _ _ _ => pts_nil) (fun _ _ _ _ _ => (pe_meth (pv 1) T.cl_Table T.m_Table_column (ok_Table_column T) (hr.mono (by decide)) (b_Table_column T) .nil passL (pa_cons (pv 6) pa_nil)))) (pss_cons (ps_fld (pv 0) (pe_lc (own := [("own", 7)]) (g := gName 7) (by rfl) sc_Spots___init__.nd (pi_list (pv 4)) (blkOk_by (own := [("own", 7)]) (N := ["self", "table", "order", "pairs", "columns", "at", "column", "own", "row", "later"]) (sc := (defScope s_Spots___init__)) (by decide +kernel)) (fun _ _ _ _ _ => (pg_name (i := 7) sc_Spots___init__.nd rfl (by first | exact Or.inl rfl | exact Or.inr rfl))) (fun _ _ _ _ _ => pts_nil) (fun _ _ _ _ _ => (pe_lc (own := [("row", 8), ("later", 9)]) (g := (gTup K 2 (gCons (gName 8) (gCons (gName 9) gNil)))) (by rfl) sc_Spots___init__.nd (piK (r := iList) (K := K) (by rfl) (pi_list (pv 3))) (blkOk_by (own := [("row", 8), ("later", 9)]) (N := ["self", "table", "order", "pairs", "columns", "at", "column", "own", "row", "later"]) (sc := _) (by kernel_rfl)) (fun _ _ _ _ _ => (pg_tup rfl (pgs_cons (pg_name (i := 8) sc_Spots___init__.nd rfl (by first | exact Or.inl rfl | exact Or.inr rfl)) (pgs_cons (pg_name (i := 9) sc_Spots___init__.nd rfl (by first | exact Or.inl rfl | exact Or.inr rfl)) pgs_nil)))) (fun _ _ _ _ _ => pts_nil) (fun _ _ _ _ _ => (pe_op op_sub (pe_ix (ixK (r := rIxL) (K := K) (by rfl) ix_list) (pv 7) (pv 9) (fun _ _ => rfl)) (pe_ix (ixK (r := rIxL) (K := K) (by rfl) ix_list) (pv 7) (pv 8) (fun _ _ => rfl))))))) rfl) (pss_one (ps_fld (pv 0) (pe_lc (own := [("row", 8), ("later", 9)]) (g := (gTup K 2 (gCons (gName 8) (gCons (gName 9) gNil)))) (by rfl) sc_Spots___init__.nd (pi_list (pv 3)) (blkOk_by (own := [("row", 8), ("later", 9)]) (N := ["self", "table", "order", "pairs", "columns", "at", "column", "own", "row", "later"]) (sc := (defScope s_Spots___init__)) (by decide +kernel)) (fun _ _ _ _ _ => (pg_tup rfl (pgs_cons (pg_name (i := 8) sc_Spots___init__.nd rfl (by first | exact Or.inl rfl | exact Or.inr rfl)) (pgs_cons (pg_name (i := 9) sc_Spots___init__.nd rfl (by first | exact Or.inl rfl | exact Or.inr rfl)) pgs_nil)))) (fun _ _ _ _ _ => pts_nil) (fun _ _ _ _ _ => (pe_cmpR op_gt (pv 8) (pv 9) (nomark _)))) rfl)))))), ?_⟩
    have ol : od.length = rows.length := by rw [pm.length_eq, ns_len]
    refine ⟨_, rfl, _, _, rfl, .inl hp, _, _, rfl, rfl, _, _, rfl, ?_⟩
    have em : (if ((od.map V.int).length : Int) - 1 > 0 then ((od.map V.int).length : Int) - 1 else 0) = ((od.length - 1 : Nat) : Int) := by
      rw [List.length_map]
      split <;> omega
    rw [em]
    refine ⟨_, rfl, x, _, dx, [], rfl, hx, T.cl_Spots, T.na_Spots_size, (by show 0 < 1000; decide), ?_⟩
    have xA : Exj x H (upd H x (.ins T.c_Spots dx (putF "size" (.int ((od.length - 1 : Nat) : Int)) []))) := (Exj.refl _ _).upd
    have hA : upd H x (.ins T.c_Spots dx (putF "size" (.int ((od.length - 1 : Nat) : Int)) [])) x = some (.ins T.c_Spots dx (putF "size" (.int ((od.length - 1 : Nat) : Int)) [])) := upd_same
    generalize upd H x (.ins T.c_Spots dx (putF "size" (.int ((od.length - 1 : Nat) : Int)) [])) = H1 at xA hA ⊢
    have ht1 := tab_exi xA hx rfl ht
    have hp1 := sql_exi xA hx hp
    have in1 : ∀ i : Nat, i < od.length - 1 → (0 : Int) + (i : Int) ∈ ns od.length ∧ (0 : Int) + (i : Int) + 1 ∈ ns od.length := fun i hi => ⟨List.mem_map.mpr ⟨i, List.mem_range.mpr (by omega), (Int.zero_add _).symm⟩, List.mem_map.mpr ⟨i + 1, List.mem_range.mpr (by omega), by omega⟩⟩
    refine ⟨_, rfl, x, _, dx, _, _, rfl, hA, T.cl_Spots, T.na_Spots_size, (by rw [lookup_putF, if_pos rfl]), _, rfl, by omega, by omega, fun D2 n2 => lc_it (walk_range (lo := 0) (n := ((od.length - 1 : Nat) : Int).toNat)) (fun i H' => ∃ ds, Ex H1 H' ∧ H' D2 = some (.lst ds) ∧ AllR (PrD D2 H') ds ((pairL od).take i)) ⟨[], Evl.Ex.new n2, upd_same, AllR.nil⟩ (fun i H' _ _ => trivial) ?_ ?_⟩
    · rintro i y H2 H3 hi ⟨ds, e2, d2, a2⟩ ⟨rfl, rfl⟩
      have hi : i < od.length - 1 := by omega
      obtain ⟨ia, ib⟩ := in1 i hi
      refine ⟨rfl, ?_⟩
      show _
      refine ⟨_, rfl, _, rfl, _, _, _, _, rfl, rfl, Evl.ex_l e2 hp1, od_at ia, _, rfl, _, rfl, _, _, rfl, rfl, _, _, _, _, rfl, rfl, Evl.ex_l e2 hp1, od_at ib, (by show 2 ≤ sizeLine; decide), fun p4 H4 n4 e4 h4 => ?_⟩
      have d4 := e4 _ _ d2
      have np : p4 ≠ D2 := (ne_of_none d2 n4).symm
      have dl := a2.1
      rw [List.length_take, pair_len] at dl
      refine ⟨ds, d4, Nat.lt_of_le_of_lt (show ds.length ≤ 100 by omega) (by decide), ds ++ [.ref p4], Evl.Ex.mut (e2.trans e4) n2, upd_same, ?_⟩
      have y1 : Exj D2 H3 (upd H4 D2 (.lst (ds ++ [.ref p4]))) := (Exj.of e4).trans (Exj.refl _ _).upd
      rw [take_snoc (pair_at hi)]
      refine AllR.snoc (a2.mono fun v x r => r.exj y1) ⟨p4, rfl, np, ?_⟩
      rw [upd_ne np, h4]
      show some (HO.tup [V.int (odV od (0 + (i : Int))), V.int (odV od (0 + (i : Int) + 1))]) = _
      rw [Int.zero_add]
    rintro H2 ⟨ds, e2, d2, a2⟩
    rw [List.take_of_length_le (by rw [pair_len]; omega)] at a2
    have dsl : ds.length = od.length - 1 := by rw [a2.1, pair_len]
    obtain ⟨tdx, tfs, ht0⟩ : ∃ dx fs, H1 t = some (.ins T.c_Table dx fs) := let ⟨dx, _, _, h, _⟩ := ht1; ⟨dx, _, h⟩
    have tno : ∃ cr, tfs = tf w cr := by
      obtain ⟨dx2, cr, _, h, _⟩ := ht1
      rw [ht0] at h
      cases h
      exact ⟨cr, rfl⟩
    obtain ⟨tcr, rfl⟩ := tno
    refine ⟨_, rfl, t, tdx, _, rfl, e2 _ _ ht0, t, w, rows, rfl, ht1.ex e2, _, rfl, by omega, by omega, fun D3 n3 => lc_it (walk_range (lo := 0) (n := ((w : Nat) : Int).toNat)) (fun i H' => ∃ cs, Ex H2 H' ∧ H' D3 = some (.lst cs) ∧ AllR (fun v c => LiD D3 H' v (colOf rows (c : Int).toNat)) cs ((ns w).take i)) ⟨[], Evl.Ex.new n3, upd_same, AllR.nil⟩ (fun i H' _ _ => trivial) ?_ ?_⟩
    · rintro i y H3 H4 hi ⟨cs, e3, d3, a3⟩ ⟨rfl, rfl⟩
      have hi : i < w := by omega
      refine ⟨rfl, ?_⟩
      show _
      refine ⟨_, rfl, t, tdx, _, rfl, (e2.trans e3) _ _ ht0, tf_no _ _ (by decide +kernel) (by decide +kernel), _, rfl, t, w, _, rows, rfl, ht1.ex (e2.trans e3), by omega, by omega, by omega, fun p4 H5 n4 e4 h4 => ?_⟩
      have d4 := e4 _ _ d3
      have np : p4 ≠ D3 := (ne_of_none d3 n4).symm
      have dl := a3.1
      rw [List.length_take, ns_len] at dl
      refine ⟨cs, d4, Nat.lt_of_le_of_lt (show cs.length ≤ 100 by omega) (by decide), cs ++ [.ref p4], Evl.Ex.mut (e3.trans e4) n3, upd_same, ?_⟩
      have y1 : Exj D3 H4 (upd H5 D3 (.lst (cs ++ [.ref p4]))) := (Exj.of e4).trans (Exj.refl _ _).upd
      have gn : (ns w)[i]? = some (i : Int) := by
        unfold ns
        rw [List.getElem?_map, List.getElem?_range hi]
        rfl
      rw [take_snoc gn]
      refine AllR.snoc (a3.mono fun v x r => r.exj y1) ⟨p4, rfl, np, ?_⟩
      rw [upd_ne np, h4, Int.zero_add]
    rintro H3 ⟨cs, e3, d3, a3⟩
    rw [List.take_of_length_le (by rw [ns_len]; omega)] at a3
    have csl : cs.length = w := by rw [a3.1, ns_len]
    have d2' := e3 _ _ d2
    have a2' : AllR (PrD D2 H3) ds (pairL od) := a2.mono fun v k r => r.exj (Exj.of e3)
    have inm : ∀ {i : Nat} {k : Ky}, (pairL od)[i]? = some k → k.1 ∈ ns rows.length ∧ k.2 ∈ ns rows.length ∧ (∃ s : Int, (ns (od.length - 1))[i]? = some s ∧ k = (odV od s, odV od (s + 1))) := fun {i k} h => by
      have hi : i < od.length - 1 := by
        have := (List.getElem?_eq_some_iff.mp h).1
        rwa [pair_len] at this
      rw [pair_at hi] at h
      cases h
      obtain ⟨ia, ib⟩ := in1 i hi
      rw [Int.zero_add] at ia ib
      refine ⟨od_mem pm ia, od_mem pm ib, (i : Int), ?_, rfl⟩
      unfold ns
      rw [List.getElem?_map, List.getElem?_range hi]
      rfl
    refine ⟨_, rfl, D3, rfl, ⟨_, sqI d3⟩, fun D4 n4 => lc_objL (K := K) (a := D3) (ys := ns w) (R := fun H v c => LiD D4 H v (stepL rows od c)) (sqI d3) n4 (by rw [ns_len, csl]) (Nat.le_trans (show cs.length ≤ 100 by omega) (by decide)) (fun _ _ _ _ r e => r.exj e) ?_ ?_⟩
    · intro i y c H' e' hD' hy hc N Z kN
      obtain ⟨q, rfl, _, hq⟩ := a3.2 i y c hy hc
      refine ⟨rfl, ?_⟩
      show _
      refine ⟨_, rfl, D2, rfl, ⟨_, sqI (e' _ _ d2')⟩, fun D5 n5 => lc_mapG (K := K) (a := D2) (ys := (stepL rows od c).map V.int) (sqI (e' _ _ d2')) n5 (by rw [List.length_map]; unfold stepL; rw [List.length_map, ns_len, dsl]) (Nat.le_trans (show ds.length ≤ 100 by omega) (by decide)) ?_ ?_⟩
      · intro i5 y5 z5 H5 e5 hy5 hz5 N5 Z5 kN5
        obtain ⟨k5, hk5, q5, rfl, _, hq5⟩ := a2'.get hy5
        obtain ⟨m1, m2, s5, hs5, rfl⟩ := inm hk5
        have ez : z5 = .int (stp rows od c s5) := by
          unfold stepL at hz5
          rw [List.getElem?_map, List.getElem?_map, hs5] at hz5
          exact (Option.some.inj hz5).symm
        rw [ez] at kN5
        have g5 := (e'.trans e5) _ _ hq
        refine ⟨_, _, rfl, sqT ((e'.trans e5) _ _ hq5), rfl, _, _, rfl, _, _, rfl, rfl, rfl, ?_⟩
        show _
        exact ⟨_, rfl, _, rfl, _, _, _, _, rfl, rfl, sqI g5, col_at m2, _, rfl, _, rfl, _, _, _, _, rfl, rfl, sqI g5, col_at m1, _, _, rfl, rfl, kN5 H5 (Evl.Ex.refl _)⟩
      · intro H5 e5 d5
        exact kN _ H5 e5 ⟨D5, rfl, fun z => hD' (z ▸ n5), d5⟩
    intro H4 ss e4 d4 a4
    have e14 := e2.trans (e3.trans e4)
    have hx4 := e14 _ _ hA
    refine ⟨_, rfl, x, _, dx, _, rfl, hx4, T.cl_Spots, T.na_Spots_steps, Nat.lt_of_le_of_lt (length_putF _ _ _) (by show 1 < 1000; decide), ?_⟩
    have xB : Exj x H4 (upd H4 x (.ins T.c_Spots dx (putF "steps" (.ref D4) (putF "size" (.int ((od.length - 1 : Nat) : Int)) [])))) := (Exj.refl _ _).upd
    have hB : upd H4 x (.ins T.c_Spots dx (putF "steps" (.ref D4) (putF "size" (.int ((od.length - 1 : Nat) : Int)) []))) x = some (.ins T.c_Spots dx (putF "steps" (.ref D4) (putF "size" (.int ((od.length - 1 : Nat) : Int)) []))) := upd_same
    generalize upd H4 x (.ins T.c_Spots dx (putF "steps" (.ref D4) (putF "size" (.int ((od.length - 1 : Nat) : Int)) []))) = H5 at xB hB ⊢
    have p5 : H5 D2 = some (.lst ds) := lst_exi xB hx4 ((e3.trans e4) _ _ d2)
    have a5 : ∀ {i : Nat} {v : V}, ds[i]? = some v → ∃ k q, (pairL od)[i]? = some k ∧ v = .ref q ∧ H5 q = some (.tup [.int k.1, .int k.2]) := fun {i v} h => by
      obtain ⟨k, hk, q, rfl, _, hq⟩ := a2'.get h
      exact ⟨k, q, hk, rfl, tup_exi xB hx4 (e4 _ _ hq)⟩
    refine ⟨_, rfl, D2, rfl, ⟨_, sqI p5⟩, fun D6 n6 => lc_mapG (K := K) (a := D2) (ys := ((ns (od.length - 1)).map (dsc od)).map V.bl) (sqI p5) n6 (by rw [List.length_map, List.length_map, ns_len, dsl]) (Nat.le_trans (show ds.length ≤ 100 by omega) (by decide)) ?_ ?_⟩
    · intro i6 y6 z6 H' e' hy6 hz6 N Z kN
      obtain ⟨k6, q6, hk6, rfl, hq6⟩ := a5 hy6
      obtain ⟨m1, m2, s6, hs6, rfl⟩ := inm hk6
      have ez : z6 = .bl (dsc od s6) := by
        rw [List.getElem?_map, List.getElem?_map, hs6] at hz6
        exact (Option.some.inj hz6).symm
      rw [ez] at kN
      refine ⟨_, _, rfl, sqT (e' _ _ hq6), rfl, _, _, rfl, _, _, rfl, rfl, rfl, ?_⟩
      show _
      exact ⟨_, rfl, _, rfl, _, _, rfl, rfl, kN H' (Evl.Ex.refl _)⟩
    intro H6 e6 d6
    have hx6 := e6 _ _ hB
    refine ⟨_, rfl, x, _, dx, _, rfl, hx6, T.cl_Spots, T.na_Spots_descending, Nat.lt_of_le_of_lt (Nat.le_trans (length_putF _ _ _) (Nat.succ_le_succ (length_putF _ _ _))) (by show 2 < 1000; decide), ?_⟩
    have xC : Exj x H6 (upd H6 x (.ins T.c_Spots dx (sf (od.length - 1) D4 D6))) := (Exj.refl _ _).upd
    have hC : upd H6 x (.ins T.c_Spots dx (sf (od.length - 1) D4 D6)) x = some (.ins T.c_Spots dx (sf (od.length - 1) D4 D6)) := upd_same
    show Q .non (upd H6 x (.ins T.c_Spots dx (sf (od.length - 1) D4 D6)))
    have st6 : AllR (fun v c => LiR (upd H6 x (.ins T.c_Spots dx (sf (od.length - 1) D4 D6))) v (stepL rows od c)) ss (ns w) := a4.mono fun v c ⟨q, z1, _, z2⟩ => ⟨q, z1, lst_exi xC hx6 (e6 _ _ (lst_exi xB hx4 z2))⟩
    have g4 := lst_exi xC hx6 (e6 _ _ (lst_exi xB hx4 d4))
    have g6 := lst_exi xC hx6 d6
    refine k _ ?_ ⟨dx, D4, D6, ss, hC, g4, st6, g6⟩
    exact xA.trans ((Exj.of e14).trans (xB.trans ((Exj.of e6).trans xC)))
end
end K13
set_option Elab.async false
set_option pp.maxSteps 1200
set_option linter.all false
set_option maxRecDepth 100000
set_option maxHeartbeats 8000000
namespace K13
open PySem L2 My
open LamX (ExtN Tabs)
/-- a table and an order of its rows -/
structure Od (K : PySem.W.Frag) (CT : Addr) (H : Hp) (t p : Addr) (w : Nat) (rows : List (List Int)) (od : List Int) : Prop where
  tab : Tab CT H t w rows
  sq : SqL K H p (od.map V.int)
  pm : od.Perm (ns rows.length)
  few : rows.length ≤ 100
  wd : w ≤ 100
theorem Od.extN {K : PySem.W.Frag} {CT : Addr} {H H' : Hp} {t p : Addr} {w : Nat} {rows : List (List Int)} {od : List Int} (h : Od K CT H t p w rows od) (e : ExtN H H') : Od K CT H' t p w rows od :=
  ⟨(let ⟨dx, cr, rs, a, b, c, d⟩ := h.tab; ⟨dx, cr, rs, extN_i e a, extN_t e b, ⟨c.1, fun i v r h1 h2 => let ⟨q, z1, z2⟩ := c.2 i v r h1 h2; ⟨q, z1, extN_t e z2⟩⟩, d⟩), sql_extN e h.sq, h.pm, h.few, h.wd⟩
theorem Od.ex {K : PySem.W.Frag} {CT : Addr} {H H' : Hp} {t p : Addr} {w : Nat} {rows : List (List Int)} {od : List Int} (h : Od K CT H t p w rows od) (e : Ex H H') : Od K CT H' t p w rows od := h.extN (ExtN.of e)
theorem Od.ol {K : PySem.W.Frag} {CT : Addr} {H : Hp} {t p : Addr} {w : Nat} {rows : List (List Int)} {od : List Int} (h : Od K CT H t p w rows od) : od.length = rows.length := by rw [h.pm.length_eq, ns_len]
def sp_usable (K : PySem.W.Frag) (CT : Addr) : Sp := fun vs H Q _ => ∃ (t p : Addr) (w : Nat) (rows : List (List Int)) (od : List Int), vs = [.ref t, .ref p] ∧ Od K CT H t p w rows od ∧ ∀ a G L H', H a = none → Ex H H' → H' a = some (.lst (G.map V.int)) → Stl rows od w G L → Q (.ref a) H'
/-- None, or the new list of what is left -/
def LeV (od L : List Int) (H H' : Hp) (v : V) : Prop := if L.any (dsc od) = true then ∃ b, v = .ref b ∧ H b = none ∧ H' b = some (.lst (L.map V.int)) else v = .non
def sp_barring (K : PySem.W.Frag) (CT : Addr) : Sp := fun vs H Q _ => ∃ (t p : Addr) (w : Nat) (rows : List (List Int)) (od : List Int), vs = [.ref t, .ref p] ∧ Od K CT H t p w rows od ∧ ∀ v G L H', Ex H H' → Stl rows od w G L → LeV od L H H' v → Q v H'
def judB (rows : List (List Int)) (od : List Int) (w : Nat) (S : List Int) : Bool := (S.all fun s => decide (0 ≤ s ∧ s < (od.length - 1 : Nat))) && barB rows od w S
def sp_judge_barring (K : PySem.W.Frag) (CT : Addr) : Sp := fun vs H Q _ => ∃ (t p q : Addr) (w : Nat) (rows : List (List Int)) (od S : List Int), vs = [.ref t, .ref p, .ref q] ∧ Od K CT H t p w rows od ∧ SqL K H q (S.map V.int) ∧ S.length ≤ 1000 ∧ Evl.RetV (.bl (judB rows od w S)) H Q
section
variable {w : World} {K : PySem.W.Frag} {mg : Str → Option Value} {base : Heap}
theorem ok_usable (T : Txt K mg) : FnOk PR w K mg base (L2.CX PR w) 8 T.a_usable T.d_usable ["table", "order"] (sp_usable K T.c_Table) := by
  refine T.f_usable.okX sc_usable (fun vs H Q E h => ?_) (fun cdv A outer s H vs Q E hr h => ?_)
  · obtain ⟨t, p, w, rows, od, rfl, _⟩ := h
    rfl
  · obtain ⟨t, p, w, rows, od, rfl, o, k⟩ := h
    refine ⟨_, (pss_cons (ps_expr (pe_call (ok_need_order T) (hr.mono (by decide)) (by rfl) T.g_need_order T.f_need_order.kp (b_need_order T) .nil passX (pa_cons (pe_callB (cr_lenO (ok_Table___len__ T) (hr.mono (by decide)) T.m_Table___len__.at_ T.m_Table___len__.fn (b_Table___len__ T) pass0) (by rfl) T.z_len PySem.boot_len (pa_cons (pv 0) pa_nil)) (pa_cons (pv 1) pa_nil)))) (pss_one (ps_ret (pe_ix ix_tup (pe_meth0 (pe_make T.mk_Spots (ok_Spots___init__ T) (hr.mono (by decide)) (by rfl) T.g_Spots (b_Spots___init__ T) .nil passX (pa_cons (pv 0) (pa_cons (pv 1) pa_nil))) T.cl_Spots T.m_Spots_settled (ok_Spots_settled T) (hr.mono (by decide)) (b_Spots_settled T) .nil pass0) pe_int (fun _ _ => rfl))))), ?_⟩
    obtain ⟨dx, fs, h0⟩ : ∃ dx fs, H t = some (.ins T.c_Table dx fs) := let ⟨dx, _, _, h, _⟩ := o.tab; ⟨dx, _, h⟩
    have few := o.few
    have ol := o.ol
    refine ⟨_, rfl, t, dx, fs, rfl, h0, t, w, rows, rfl, o.tab, _, rfl, by omega, by omega, _, rfl, rows.length, p, od, rfl, o.sq, o.pm, by omega, fun H1 e1 => ?_⟩
    have o1 := o.ex e1
    refine ⟨_, rfl, _, rfl, ?_⟩
    refine mkObj (Q := fun v H => ∃ a dx fs, v = V.ref a ∧ H a = some (.ins T.c_Spots dx fs) ∧ List.lookup ("settled" : Str) fs = none ∧ tNil _ H fun vs H2 => sp_Spots_settled T.c_Spots (v :: (vs ++ [])) H2 _ E0) (R := fun H x => SpO T.c_Spots H x rows od w) (fun x dx' G0 nx f0 hx kk => ?_) (fun x H2 nx e2 hS => ?_)
    · exact ⟨x, _, t, p, w, rows, od, rfl, hx, (o1.ex f0).tab, (o1.ex f0).sq, o.pm, o.few, o.wd, fun H' e' s' => ⟨rfl, kk H' e' s'⟩⟩
    obtain ⟨dx2, sp, dp, ss, g1, g2, g3, g4⟩ := id hS
    refine ⟨x, dx2, _, rfl, g1, sf_no _ _ _ (by decide +kernel) (by decide +kernel) (by decide +kernel), x, rows, od, w, rfl, hS, o.wd, by omega, fun tt a b G L H3 na nb nab e3 ht ha hb st => ?_⟩
    refine ⟨_, _, _, _, rfl, rfl, sqT ht, at0, ?_⟩
    exact k a G L H3 (Ex_back (e1.trans e2) na) (e1.trans (e2.trans e3)) ha st
theorem ok_barring (T : Txt K mg) : FnOk PR w K mg base (L2.CX PR w) 8 T.a_barring T.d_barring ["table", "order"] (sp_barring K T.c_Table) := by
  refine T.f_barring.okX sc_barring (fun vs H Q E h => ?_) (fun cdv A outer s H vs Q E hr h => ?_)
  · obtain ⟨t, p, w, rows, od, rfl, _⟩ := h
    rfl
  · obtain ⟨t, p, w, rows, od, rfl, o, k⟩ := h
    refine ⟨_, (pss_cons (ps_expr (pe_call (ok_need_order T) (hr.mono (by decide)) (by rfl) T.g_need_order T.f_need_order.kp (b_need_order T) .nil passX (pa_cons (pe_callB (cr_lenO (ok_Table___len__ T) (hr.mono (by decide)) T.m_Table___len__.at_ T.m_Table___len__.fn (b_Table___len__ T) pass0) (by rfl) T.z_len PySem.boot_len (pa_cons (pv 0) pa_nil)) (pa_cons (pv 1) pa_nil)))) (pss_cons (ps_set (i := 2) sc_barring.nd rfl (by first | exact Or.inl rfl | exact Or.inr rfl) (pe_make T.mk_Spots (ok_Spots___init__ T) (hr.mono (by decide)) (by rfl) T.g_Spots (b_Spots___init__ T) .nil passX (pa_cons (pv 0) (pa_cons (pv 1) pa_nil)))) (pss_cons (ps_set (i := 3) sc_barring.nd rfl (by first | exact Or.inl rfl | exact Or.inr rfl) (pe_ix ix_tup (pe_meth0 (pv 2) T.cl_Spots T.m_Spots_settled (ok_Spots_settled T) (hr.mono (by decide)) (b_Spots_settled T) .nil pass0) pe_int (fun _ _ => rfl))) (pss_one (ps_ret (pe_cut (pe_ifExp (pt_val (pe_callB (cr_any rfl) (by rfl) T.z_any (by decide +kernel) (pa_cons (pe_lc (own := [("spot", 4)]) (g := gName 4) (by rfl) sc_barring.nd (pi_list (pv 3)) (blkOk_by (own := [("spot", 4)]) (N := ["table", "order", "spots", "left", "spot"]) (sc := (defScope s_barring)) (by decide +kernel)) (fun _ _ _ _ _ => (pg_name (i := 4) sc_barring.nd rfl (by first | exact Or.inl rfl | exact Or.inr rfl))) (fun _ _ _ _ _ => pts_nil) (fun _ _ _ _ _ => (pe_ix (ixK (r := rIxL) (K := K) (by rfl) ix_list) (pe_fldK (K := K) (by rfl) (pe_fld (pv 2) rfl)) (pv 4) (fun _ _ => rfl)))) pa_nil))) (pv 3) pe_non))))))), ?_⟩
    obtain ⟨dx, fs, h0⟩ : ∃ dx fs, H t = some (.ins T.c_Table dx fs) := let ⟨dx, _, _, h, _⟩ := o.tab; ⟨dx, _, h⟩
    have few := o.few
    have ol := o.ol
    refine ⟨_, rfl, t, dx, fs, rfl, h0, t, w, rows, rfl, o.tab, _, rfl, by omega, by omega, _, rfl, rows.length, p, od, rfl, o.sq, o.pm, by omega, fun H1 e1 => ?_⟩
    have o1 := o.ex e1
    refine ⟨_, rfl, _, rfl, ?_⟩
    refine mkObj (Q := fun v H => gName 2 v _ H _) (R := fun H x => SpO T.c_Spots H x rows od w) (fun x dx' G0 nx f0 hx kk => ?_) (fun x H2 nx e2 hS => ?_)
    · exact ⟨x, _, t, p, w, rows, od, rfl, hx, (o1.ex f0).tab, (o1.ex f0).sq, o.pm, o.few, o.wd, fun H' e' s' => ⟨rfl, kk H' e' s'⟩⟩
    obtain ⟨dx2, sp, dp, ss, g1, g2, g3, g4⟩ := id hS
    refine ⟨_, rfl, x, dx2, _, rfl, g1, sf_no _ _ _ (by decide +kernel) (by decide +kernel) (by decide +kernel), x, rows, od, w, rfl, hS, o.wd, by omega, fun tt a b G L H3 na nb nab e3 ht ha hb st => ?_⟩
    refine ⟨_, _, _, _, rfl, rfl, sqT ht, at1, ?_⟩
    have inn : ∀ s ∈ L, s ∈ ns (od.length - 1) := by
      obtain ⟨F, r, _⟩ := st
      exact r.inn
    have ll : L.length ≤ 100 := by
      obtain ⟨F, r, _⟩ := st
      have := ns_len_le (S := []) r
      omega
    have e23 := e2.trans e3
    refine ⟨fun v H' => LeV od L H H' v ∧ Ex H H', ?_, ?_⟩
    · refine ⟨_, rfl, b, rfl, ⟨_, sqI hb⟩, fun D hD => lc_mapG (K := K) (a := b) (ys := (L.map (dsc od)).map V.bl) (sqI hb) hD (by simp) (by rw [List.length_map]; exact Nat.le_trans ll (by decide)) ?_ ?_⟩
      · intro i y z H' e' hy hz N Z kN
        obtain ⟨s, hs, rfl⟩ := mapI_get hy
        rw [List.getElem?_map, List.getElem?_map, hs] at hz
        cases hz
        refine ⟨rfl, ?_⟩
        show _
        exact ⟨_, rfl, x, _, dx2, _, _, rfl, (e3.trans e') _ _ g1, T.cl_Spots, T.na_Spots_descending, sf_desc _ _ _, _, rfl, _, _, _, _, rfl, rfl, sqI ((e3.trans e') _ _ g4), desc_at (inn _ (List.mem_of_getElem? hs)), kN H' (Evl.Ex.refl _)⟩
      intro H4 e4 d4
      have ea : (L.map (dsc od)).any id = L.any (dsc od) := by
        rw [List.any_map]
        rfl
      refine ⟨D, _, rfl, sqI d4, _, rfl, ?_⟩
      have all := e1.trans (e23.trans e4)
      rw [ea]
      refine ifB (fun z => ?_) (fun z => ?_)
      · refine ⟨_, rfl, ?_, all⟩
        unfold LeV
        rw [if_pos z]
        exact ⟨b, rfl, Ex_back (e1.trans e2) nb, e4 _ _ hb⟩
      · refine ⟨?_, all⟩
        unfold LeV
        rw [if_neg (by rw [z]; simp)]
    · rintro v H4 ⟨le, e4⟩
      exact k v G L H4 e4 st le
theorem ok_judge_barring (T : Txt K mg) : FnOk PR w K mg base (L2.CX PR w) 8 T.a_judge_barring T.d_judge_barring ["table", "order", "spots"] (sp_judge_barring K T.c_Table) := by
  refine T.f_judge_barring.okX sc_judge_barring (fun vs H Q E h => ?_) (fun cdv A outer s H vs Q E hr h => ?_)
  · obtain ⟨t, p, q, w, rows, od, S, rfl, _⟩ := h
    rfl
  · obtain ⟨t, p, q, w, rows, od, S, rfl, o, hq, hS, k⟩ := h
    refine ⟨_, (pss_cons (ps_expr (pe_call (ok_need_order T) (hr.mono (by decide)) (by rfl) T.g_need_order T.f_need_order.kp (b_need_order T) .nil passX (pa_cons (pe_callB (cr_lenO (ok_Table___len__ T) (hr.mono (by decide)) T.m_Table___len__.at_ T.m_Table___len__.fn (b_Table___len__ T) pass0) (by rfl) T.z_len PySem.boot_len (pa_cons (pv 0) pa_nil)) (pa_cons (pv 1) pa_nil)))) (pss_cons (ps_set (i := 3) sc_judge_barring.nd rfl (by first | exact Or.inl rfl | exact Or.inr rfl) (pe_make T.mk_Spots (ok_Spots___init__ T) (hr.mono (by decide)) (by rfl) T.g_Spots (b_Spots___init__ T) .nil passX (pa_cons (pv 0) (pa_cons (pv 1) pa_nil)))) (pss_one (ps_ret (pe_and (pe_callB (cr_all rfl) (by rfl) T.z_all (by decide +kernel) (pa_cons (pe_lc (own := [("spot", 4)]) (g := gName 4) (by rfl) sc_judge_barring.nd (pi_list (pv 2)) (blkOk_by (own := [("spot", 4)]) (N := ["table", "order", "spots", "own", "spot"]) (sc := (defScope s_judge_barring)) (by decide +kernel)) (fun _ _ _ _ _ => (pg_name (i := 4) sc_judge_barring.nd rfl (by first | exact Or.inl rfl | exact Or.inr rfl))) (fun _ _ _ _ _ => pts_nil) (fun _ _ _ _ _ => (pe_chain op_le op_lt pe_int (pv 4) (pe_fldK (K := K) (by rfl) (pe_fld (pv 3) rfl))))) pa_nil)) (pe_one (pe_meth (pv 3) T.cl_Spots T.m_Spots_bars (ok_Spots_bars T) (hr.mono (by decide)) (b_Spots_bars T) .nil pass0 (pa_cons (pv 2) pa_nil)))))))), ?_⟩
    obtain ⟨dx, fs, h0⟩ : ∃ dx fs, H t = some (.ins T.c_Table dx fs) := let ⟨dx, _, _, h, _⟩ := o.tab; ⟨dx, _, h⟩
    have few := o.few
    have ol := o.ol
    refine ⟨_, rfl, t, dx, fs, rfl, h0, t, w, rows, rfl, o.tab, _, rfl, by omega, by omega, _, rfl, rows.length, p, od, rfl, o.sq, o.pm, by omega, fun H1 e1 => ?_⟩
    have o1 := o.ex e1
    refine ⟨_, rfl, _, rfl, ?_⟩
    refine mkObj (Q := fun v H => gName 3 v _ H _) (R := fun H x => SpO T.c_Spots H x rows od w) (fun x dx' G0 nx f0 hx kk => ?_) (fun x H2 nx e2 hO => ?_)
    · exact ⟨x, _, t, p, w, rows, od, rfl, hx, (o1.ex f0).tab, (o1.ex f0).sq, o.pm, o.few, o.wd, fun H' e' s' => ⟨rfl, kk H' e' s'⟩⟩
    obtain ⟨dx2, sp, dp, ss, g1, g2, g3, g4⟩ := id hO
    have hq2 := Evl.ex_l (e1.trans e2) hq
    refine ⟨_, rfl, q, rfl, ⟨_, hq2⟩, fun D hD => lc_mapG (K := K) (a := q) (ys := (S.map fun (s : Int) => decide (0 ≤ s ∧ s < ((od.length - 1 : Nat) : Int))).map V.bl) hq2 hD (by simp) (by rw [List.length_map]; exact Nat.le_trans hS (by decide)) ?_ ?_⟩
    · intro i y z H' e' hy hz N Z kN
      obtain ⟨s, hs, rfl⟩ := mapI_get hy
      rw [List.getElem?_map, List.getElem?_map, hs] at hz
      cases hz
      have kN : ∀ H2, Ex H' H2 → N (.bl (decide (0 ≤ s ∧ s < (od.length - 1 : Nat)))) H2 := kN
      refine ⟨rfl, ?_⟩
      show _
      refine ⟨_, rfl, _, _, rfl, rfl, _, rfl, ifB (fun z => ?_) (fun z => ?_)⟩
      · refine ⟨_, rfl, x, _, dx2, _, _, rfl, e' _ _ g1, T.cl_Spots, T.na_Spots_size, sf_size _ _ _, _, _, rfl, rfl, ?_⟩
        have z : (0 : Int) ≤ s := of_decide_eq_true z
        have e : decide (s < ((od.length - 1 : Nat) : Int)) = decide (0 ≤ s ∧ s < (od.length - 1 : Nat)) := by
          rw [decide_eq_decide]
          omega
        show N (.bl (decide (s < ((od.length - 1 : Nat) : Int)))) H'
        rw [e]
        exact kN H' (Evl.Ex.refl _)
      · have z : ¬ (0 : Int) ≤ s := of_decide_eq_false z
        have e : decide (0 ≤ s ∧ s < ((od.length - 1 : Nat) : Int)) = false := decide_eq_false (fun y => z y.1)
        rw [e] at kN
        exact kN H' (Evl.Ex.refl _)
    intro H3 e3 d3
    have ea : judB rows od w S = ((S.map fun (s : Int) => decide (0 ≤ s ∧ s < ((od.length - 1 : Nat) : Int))).all id && barB rows od w S) := by
      unfold judB
      rw [List.all_map]
      rfl
    rw [ea] at k
    have all := e1.trans (e2.trans e3)
    refine ⟨D, _, rfl, sqI d3, _, rfl, ?_⟩
    refine ifB (fun z => ?_) (fun z => ?_)
    · rw [z, Bool.true_and] at k
      have inn : ∀ s ∈ S, s ∈ ns (od.length - 1) := fun s hs => by
        have := List.all_eq_true.mp z (decide (0 ≤ s ∧ s < (od.length - 1 : Nat))) (List.mem_map.mpr ⟨s, hs, rfl⟩)
        have := of_decide_eq_true this
        exact List.mem_map.mpr ⟨s.toNat, List.mem_range.mpr (by omega), by omega⟩
      refine ⟨_, rfl, x, dx2, _, rfl, e3 _ _ g1, sf_no _ _ _ (by decide +kernel) (by decide +kernel) (by decide +kernel), _, rfl, x, q, rows, od, S, w, rfl, hO.ex e3, by have := o.wd; omega, ⟨Evl.ex_l e3 hq2, inn, hS⟩, fun H4 e4 => k H4 (all.trans e4)⟩
    · rw [z, Bool.false_and] at k
      exact k H3 all
end
end K13
set_option Elab.async false
set_option pp.maxSteps 1200
set_option linter.all false
set_option maxRecDepth 100000
set_option maxHeartbeats 8000000
namespace K13
open PySem L2 My
open LamX (ExtN Tabs)
open PySem.W (dataLe dataLt alike)
/-- a list of ints, new since H0 -/
def LiN (H0 H : Hp) (v : V) (r : List Int) : Prop := ∃ q, v = .ref q ∧ NewN H0 q ∧ H q = some (.lst (r.map V.int))
theorem LiN.extN {H0 H H' : Hp} {v : V} {r : List Int} (e : ExtN H H') : LiN H0 H v r → LiN H0 H' v r := fun ⟨q, a, n, b⟩ => ⟨q, a, n, extN_l e b⟩
theorem lt_ints (p q : List Int) : dataLt (eL PyData.int q) (eL PyData.int p) = decide (q < p) := by
  have h := congrFun (congrFun rowsLe p) q
  rw [PySem.W.dataLe_eq] at h
  have h : (!dataLt (eL PyData.int q) (eL PyData.int p)) = decide (p ≤ q) := h
  cases e : dataLt (eL PyData.int q) (eL PyData.int p) with
  | true =>
    rw [e] at h
    have : ¬ p ≤ q := of_decide_eq_false h.symm
    exact (decide_eq_true (List.not_le.mp this)).symm
  | false =>
    rw [e] at h
    have : p ≤ q := of_decide_eq_true h.symm
    exact (decide_eq_false (List.not_lt.mpr this)).symm
def pairD (p : List Int) : PyData := .tuple [.int (p.length : Nat), eL PyData.int p]
theorem alikeI (p q : List Int) : alike (eL PyData.int p) (eL PyData.int q) = true := by
  unfold eL
  rw [PySem.W.alike]
  exact PySem.W.alike_ints _ _
theorem le_pair : dataLe false pairD = fun p q => decide (pKey p ≤ pKey q) := by
  rw [PySem.W.dataLe_eq]
  funext p q
  show (!dataLt (pairD q) (pairD p)) = _
  unfold pairD
  rw [PySem.W.dataLt_pair (by rfl) (alikeI q p), PySem.W.dataLt_int, lt_ints]
  have e1 : PyData.eqv (.int (q.length : Nat)) (.int (p.length : Nat)) = decide ((q.length : Int) = (p.length : Int)) := goodI.eqv _ _
  have e2 : PyData.eqv (eL PyData.int q) (eL PyData.int p) = decide (q = p) := (goodL goodI).eqv q p
  rw [e1, e2]
  have key : pKey p ≤ pKey q ↔ ¬ ((q.length : Int) < (p.length : Int) ∨ ((q.length : Int) = (p.length : Int) ∧ q < p)) := by
    unfold pKey
    rw [← List.not_lt, List.cons_lt_cons_iff]
  have kd : decide (pKey p ≤ pKey q) = decide (¬ ((q.length : Int) < (p.length : Int) ∨ ((q.length : Int) = (p.length : Int) ∧ q < p))) := decide_eq_decide.mpr key
  rw [kd]
  by_cases h1 : q.length = p.length
  · by_cases h2 : q = p
    · subst h2
      simp [List.lt_irrefl]
    · simp [h1, h2]
      rw [← decide_not]
      exact decide_eq_decide.mpr List.not_le.symm
  · have h1' : ¬ ((q.length : Nat) : Int) = ((p.length : Nat) : Int) := by omega
    rw [decide_eq_false h1', if_neg (by simp), ← decide_not]
    refine decide_eq_decide.mpr ?_
    constructor
    · rintro a (z | ⟨z, _⟩)
      · exact a z
      · exact h1' z
    · exact fun a z => a (.inl z)
theorem le_list : dataLe false (fun p => eL PyData.int (pKey p)) = fun p q => decide (pKey p ≤ pKey q) := PySem.W.dataLe_rows (β := List Int) pKey
/-- the parts, new -/
def NewP (tabs : List (Addr × Str)) (m : Nat) (H : Hp) (Q : VK) : Prop := ∀ a us H', NewN H a → ExtN H H' → Tabs tabs H' → H' a = some (.lst us) → AllR (LiN H H') us (partsS m) → Q (.ref a) H'
def sp_parts_of (K : PySem.W.Frag) (tabs : List (Addr × Str)) : Sp := fun vs H Q _ => ∃ (p : Addr) (m : Nat), vs = [.ref p] ∧ SqL K H p ((ns m).map V.int) ∧ m ≤ 8 ∧ Tabs tabs H ∧ NewP tabs m H Q
def sp__law_parts (tabs : List (Addr × Str)) : Sp := fun vs H Q _ => ∃ (m : Nat), vs = [.int (m : Nat)] ∧ m ≤ 8 ∧ Tabs tabs H ∧ NewP tabs m H Q
section
variable {w : World} {K : PySem.W.Frag} {mg : Str → Option Value} {base : Heap}
theorem ok_parts_of (T : Txt K mg) (hB : T.Bs base) : FnOk PR w K mg base CX0 2 T.a_parts_of T.d_parts_of ["items"] (sp_parts_of K T.tabs) := by
  refine T.f_parts_of.ok sc_parts_of (fun vs H Q E h => ?_) (fun A outer s H vs Q E hr h => ?_)
  · obtain ⟨p, m, rfl, _⟩ := h
    rfl
  · obtain ⟨p, m, rfl, hp, hm, hT, k⟩ := h
    refine ⟨_, (pss_cons (ps_set (i := 1) sc_parts_of.nd rfl (by first | exact Or.inl rfl | exact Or.inr rfl) (pe_lstG (pa_cons (pe_lstG pa_nil) pa_nil))) (pss_cons (ps_for PassesOwn.never rfl (pi_list (pv 0)) (pg_name (i := 2) sc_parts_of.nd rfl (by first | exact Or.inl rfl | exact Or.inr rfl)) (pss_one (ps_set (i := 1) sc_parts_of.nd rfl (by first | exact Or.inl rfl | exact Or.inr rfl) (pe_op op_catG (pv 1) (pe_lc (own := [("part", 3)]) (g := gName 3) (by rfl) sc_parts_of.nd (pi_list (pv 1)) (blkOk_by (own := [("part", 3)]) (N := ["items", "found", "item", "part"]) (sc := (defScope s_parts_of)) (by decide +kernel)) (fun _ _ _ _ _ => (pg_name (i := 3) sc_parts_of.nd rfl (by first | exact Or.inl rfl | exact Or.inr rfl))) (fun _ _ _ _ _ => pts_nil) (fun _ _ _ _ _ => (pe_op op_catG (pv 3) (pe_lstG (pa_cons (pv 2) pa_nil))))))))) (pss_one (ps_ret (pe_sortLam (T := T.tabs) (N := ["part"]) (p := "part") (fr := []) (js := []) (k := 0) (by rfl) T.z_sorted (pv 1) (T.tb_parts_of hB) rfl T.tm_parts_of T.tu_parts_of (hr.mono (by decide)) (lscope_by (by kernel_rfl)) (by kernel_rfl) rfl rfl (fun _ _ _ _ _ _ => rfl) (fun c' f A outer s H hr => (pe_tupG (pa_cons (pe_callB (crK (r := rLenSq) (K := K) (by rfl) call_len_seq) (by rfl) T.z_len PySem.boot_len (pa_cons (pv 0) pa_nil)) (pa_cons (pv 0) pa_nil))))))))), ?_⟩
    refine ⟨(by show 0 ≤ sizeLine; decide), fun p1 H1 n1 e1 h1 => ⟨(by show 1 ≤ sizeLine; decide), fun p2 H2 n2 e2 h2 => ?_⟩⟩
    have e02 := e1.trans e2
    have hp2 := Evl.ex_l e02 hp
    refine ⟨_, rfl, p, rfl, ⟨_, hp2⟩, for_list (K := K) (a := p) (xs := (ns m).map V.int) (fun i σ H' => ∃ (fo : Addr) (us : List V) (v2 : Option V), σ = [some (.ref p), some (.ref fo), v2, none] ∧ Ex H H' ∧ H' fo = some (.lst us) ∧ AllR (LiN H H') us (partsN i)) ⟨p2, _, _, rfl, e02, h2, AllR.one ⟨p1, rfl, .of n1, e2 _ _ h1⟩⟩ (fun i σ H' _ ⟨_, _, _, _, e, _⟩ => Evl.ex_l e hp) ?_ ?_⟩
    · rintro i x σ H3 hi ⟨fo, us, v2, rfl, e3, f3, a3⟩
      obtain ⟨c, hc, rfl⟩ := mapI_get hi
      have im : i < m := by
        have := (List.getElem?_eq_some_iff.mp hc).1
        rwa [ns_len] at this
      obtain rfl : c = (i : Int) := by
        unfold ns at hc
        rw [List.getElem?_map, List.getElem?_range im] at hc
        exact (Option.some.inj hc).symm
      have ul : us.length = 2 ^ i := by rw [a3.1, parts_len]
      have p8 : 2 ^ i ≤ 256 := Nat.le_trans (Nat.pow_le_pow_right (by decide) (show i ≤ 8 by omega)) (by decide)
      refine ⟨_, rfl, _, rfl, fo, rfl, ⟨_, sqI f3⟩, fun D hD => lc_objL (K := K) (a := fo) (ys := (partsN i).map fun p => p ++ [(i : Int)]) (R := fun H' v r => LiN H H' v r ∧ v ≠ .ref D) (sqI f3) hD (by rw [List.length_map, parts_len, ul]) (Nat.le_trans (show us.length ≤ 256 by omega) (by decide)) (fun _ _ _ _ r e => ?_) ?_ ?_⟩
      · obtain ⟨⟨q, rfl, nq, hq⟩, nD⟩ := r
        exact ⟨⟨q, rfl, nq, e _ _ (fun z => nD (by rw [z])) hq⟩, nD⟩
      · intro j v y H' e' hD' hv hy N Z kN
        obtain ⟨part, hpart, q, rfl, nq, hq⟩ := a3.get hv
        rw [List.getElem?_map, hpart] at hy
        cases hy
        have pl := parts_small i part (List.mem_of_getElem? hpart)
        refine ⟨rfl, ?_⟩
        show _
        refine ⟨_, rfl, _, rfl, (by show 1 ≤ sizeLine; decide), fun p5 H5 n5 e5 h5 => ?_⟩
        refine ⟨_, _, _, _, rfl, rfl, (e'.trans e5) _ _ hq, h5, ?_, fun p6 H6 n6 e6 h6 => ?_⟩
        · rw [List.length_map]
          exact Nat.le_trans (show part.length + 1 ≤ 100 by omega) (by decide)
        · refine kN _ H6 (e5.trans e6) ⟨⟨p6, rfl, .of (Ex_back (e3.trans (e'.trans e5)) n6), ?_⟩, fun z => ?_⟩
          · rw [h6, List.map_append]
            rfl
          · cases z
            exact hD' (Ex_back e5 n6)
      intro H4 vs e4 d4 a4
      refine ⟨_, _, _, _, rfl, rfl, e4 _ _ f3, d4, ?_, fun p5 H5 n5 e5 h5 => ?_⟩
      · have := a4.1
        rw [List.length_map, parts_len] at this
        exact Nat.le_trans (show us.length + vs.length ≤ 600 by omega) (by decide)
      · refine ⟨p5, _, _, rfl, e3.trans (e4.trans e5), h5, AllR.append (a3.mono fun v r z => z.extN (ExtN.of (e4.trans e5))) (a4.mono fun v r z => z.1.extN (ExtN.of e5))⟩
    · rintro σ H3 ⟨fo, us, v2, rfl, e3, f3, a3⟩
      rw [List.length_map, ns_len] at a3
      refine ⟨_, rfl, slk_objs (ys := partsN m) (R := LiN H) pairD (sqI f3) a3 (fun _ _ _ _ e r => r.extN e) (hT.ext e3) (fun i j => ?_) (.inl fun i => ⟨_, _, rfl⟩) (fun i => ?_) (fun H4 e4 v y hy r => ?_) (fun p' vs H4 n' e4 t4 h4 a4 => ?_)⟩
      · show alike (.tuple [_, _]) (.tuple [_, _]) = true
        rw [PySem.W.alike]
        simp [PySem.W.alikeAll, PySem.W.alike, alikeI]
      · have := (goodL goodI).dep i
        have e : (pairD i).depth = (eL PyData.int i).depth + 1 := by
          show max 0 (max (eL PyData.int i).depth 0) + 1 = _
          omega
        omega
      · obtain ⟨q, rfl, nq, hq⟩ := r
        refine st_eq (σ' := [some (.ref q)]) (P := fun σ => tTupG _ σ H4 _) rfl ?_
        refine ⟨_, rfl, _, _, rfl, .inl (sqI hq), _, rfl, (by show 2 ≤ sizeLine; decide), fun p5 H5 n5 e5 h5 => ⟨e5, .tup (sqT h5) (.cons ?_ (.cons (dpL (sqI (e5 _ _ hq))) .nil))⟩⟩
        rw [List.length_map]
        exact .int _
      · rw [le_pair] at a4
        exact k p' vs H4 (n'.back (ExtN.of e3)) ((ExtN.of e3).trans e4) t4 h4 a4
theorem ok__law_parts (T : Txt K mg) (hB : T.Bs base) : FnOk PR w K mg base CX0 2 T.a__law_parts T.d__law_parts ["_law_many"] (sp__law_parts T.tabs) := by
  refine T.f__law_parts.ok sc__law_parts (fun vs H Q E h => ?_) (fun A outer s H vs Q E hr h => ?_)
  · obtain ⟨m, rfl, _⟩ := h
    rfl
  · obtain ⟨m, rfl, hm, hT, k⟩ := h
    refine ⟨_, (pss_cons (ps_set (i := 1) sc__law_parts.nd rfl (by first | exact Or.inl rfl | exact Or.inr rfl) (pe_lstG (pa_cons (pe_lstG pa_nil) pa_nil))) (pss_cons (ps_for PassesOwn.never rfl (pi_range1 (by rfl) T.z_range (pa_cons (pv 0) pa_nil)) (pg_name (i := 2) sc__law_parts.nd rfl (by first | exact Or.inl rfl | exact Or.inr rfl)) (pss_one (ps_set (i := 1) sc__law_parts.nd rfl (by first | exact Or.inl rfl | exact Or.inr rfl) (pe_op op_catG (pv 1) (pe_lc (own := [("_law_part", 3)]) (g := gName 3) (by rfl) sc__law_parts.nd (pi_list (pv 1)) (blkOk_by (own := [("_law_part", 3)]) (N := ["_law_many", "_law_found", "_law_spot", "_law_part"]) (sc := (defScope s__law_parts)) (by decide +kernel)) (fun _ _ _ _ _ => (pg_name (i := 3) sc__law_parts.nd rfl (by first | exact Or.inl rfl | exact Or.inr rfl))) (fun _ _ _ _ _ => pts_nil) (fun _ _ _ _ _ => (pe_op op_catG (pv 3) (pe_lstG (pa_cons (pv 2) pa_nil))))))))) (pss_one (ps_ret (pe_sortLam (T := T.tabs) (N := ["_law_part"]) (p := "_law_part") (fr := []) (js := []) (k := 0) (by rfl) T.z_sorted (pv 1) (T.tb__law_parts hB) rfl T.tm__law_parts T.tu__law_parts (hr.mono (by decide)) (lscope_by (by kernel_rfl)) (by kernel_rfl) rfl rfl (fun _ _ _ _ _ _ => rfl) (fun c' f A outer s H hr => (pe_op op_catG (pe_lstG (pa_cons (pe_callB (crK (r := rLenSq) (K := K) (by rfl) call_len_seq) (by rfl) T.z_len PySem.boot_len (pa_cons (pv 0) pa_nil)) pa_nil)) (pv 0)))))))), ?_⟩
    refine ⟨(by show 0 ≤ sizeLine; decide), fun p1 H1 n1 e1 h1 => ⟨(by show 1 ≤ sizeLine; decide), fun p2 H2 n2 e2 h2 => ?_⟩⟩
    have e02 := e1.trans e2
    refine ⟨_, rfl, _, rfl, by omega, by omega, for_range (lo := 0) (n := ((m : Nat) : Int).toNat) (fun i σ H' => ∃ (fo : Addr) (us : List V) (v2 : Option V), σ = [some (.int (m : Nat)), some (.ref fo), v2, none] ∧ Ex H H' ∧ H' fo = some (.lst us) ∧ AllR (LiN H H') us (partsN i)) ⟨p2, _, _, rfl, e02, h2, AllR.one ⟨p1, rfl, .of n1, e2 _ _ h1⟩⟩ ?_ ?_⟩
    · rintro i σ H3 hi ⟨fo, us, v2, rfl, e3, f3, a3⟩
      have im : i < m := by omega
      have ul : us.length = 2 ^ i := by rw [a3.1, parts_len]
      have p8 : 2 ^ i ≤ 256 := Nat.le_trans (Nat.pow_le_pow_right (by decide) (show i ≤ 8 by omega)) (by decide)
      refine ⟨_, rfl, _, rfl, fo, rfl, ⟨_, sqI f3⟩, fun D hD => lc_objL (K := K) (a := fo) (ys := (partsN i).map fun p => p ++ [(i : Int)]) (R := fun H' v r => LiN H H' v r ∧ v ≠ .ref D) (sqI f3) hD (by rw [List.length_map, parts_len, ul]) (Nat.le_trans (show us.length ≤ 256 by omega) (by decide)) (fun _ _ _ _ r e => ?_) ?_ ?_⟩
      · obtain ⟨⟨q, rfl, nq, hq⟩, nD⟩ := r
        exact ⟨⟨q, rfl, nq, e _ _ (fun z => nD (by rw [z])) hq⟩, nD⟩
      · intro j v y H' e' hD' hv hy N Z kN
        obtain ⟨part, hpart, q, rfl, nq, hq⟩ := a3.get hv
        rw [List.getElem?_map, hpart] at hy
        cases hy
        have pl := parts_small i part (List.mem_of_getElem? hpart)
        refine ⟨rfl, ?_⟩
        show _
        refine ⟨_, rfl, _, rfl, (by show 1 ≤ sizeLine; decide), fun p5 H5 n5 e5 h5 => ?_⟩
        refine ⟨_, _, _, _, rfl, rfl, (e'.trans e5) _ _ hq, h5, ?_, fun p6 H6 n6 e6 h6 => ?_⟩
        · rw [List.length_map]
          exact Nat.le_trans (show part.length + 1 ≤ 100 by omega) (by decide)
        · refine kN _ H6 (e5.trans e6) ⟨⟨p6, rfl, .of (Ex_back (e3.trans (e'.trans e5)) n6), ?_⟩, fun z => ?_⟩
          · rw [h6, List.map_append]
            show some (HO.lst (part.map V.int ++ [V.int (0 + (i : Int))])) = some (HO.lst (part.map V.int ++ [V.int (i : Int)]))
            rw [Int.zero_add]
          · cases z
            exact hD' (Ex_back e5 n6)
      intro H4 vs e4 d4 a4
      refine ⟨_, _, _, _, rfl, rfl, e4 _ _ f3, d4, ?_, fun p5 H5 n5 e5 h5 => ?_⟩
      · have := a4.1
        rw [List.length_map, parts_len] at this
        exact Nat.le_trans (show us.length + vs.length ≤ 600 by omega) (by decide)
      · refine ⟨p5, _, _, rfl, e3.trans (e4.trans e5), h5, AllR.append (a3.mono fun v r z => z.extN (ExtN.of (e4.trans e5))) (a4.mono fun v r z => z.1.extN (ExtN.of e5))⟩
    · rintro σ H3 ⟨fo, us, v2, rfl, e3, f3, a3⟩
      rw [show ((m : Nat) : Int).toNat = m by omega] at a3
      refine ⟨_, rfl, slk_objs (ys := partsN m) (R := LiN H) (fun p => eL PyData.int (pKey p)) (sqI f3) a3 (fun _ _ _ _ e r => r.extN e) (hT.ext e3) (fun i j => ?_) (.inr fun i => ⟨(by intro z; cases z), (by intro xs z; cases z)⟩) (fun i => ?_) (fun H4 e4 v y hy r => ?_) (fun p' vs H4 n' e4 t4 h4 a4 => ?_)⟩
      · exact alikeI _ _
      · have := (goodL goodI).dep (pKey i)
        omega
      · obtain ⟨q, rfl, nq, hq⟩ := r
        have pl := parts_small m y hy
        refine st_eq (σ' := [some (.ref q)]) (P := fun σ => tOp _ _ _ σ H4 _) rfl ?_
        refine ⟨_, rfl, _, _, rfl, .inl (sqI hq), (by show 1 ≤ sizeLine; decide), fun p5 H5 n5 e5 h5 => ?_⟩
        refine ⟨_, rfl, _, _, _, _, rfl, rfl, h5, e5 _ _ hq, ?_, fun p6 H6 n6 e6 h6 => ⟨e5.trans e6, dpL (sqI ?_)⟩⟩
        · rw [List.length_map]
          exact Nat.le_trans (show 1 + y.length ≤ 100 by omega) (by decide)
        · rw [h6, List.length_map]
          rfl
      · rw [le_list] at a4
        exact k p' vs H4 (n'.back (ExtN.of e3)) ((ExtN.of e3).trans e4) t4 h4 a4
end
end K13
set_option Elab.async false
set_option pp.maxSteps 1200
set_option linter.all false
set_option maxRecDepth 100000
set_option maxHeartbeats 8000000
namespace K13
open PySem L2 My
open LamX (ExtN Tabs)
def OptL (H H' : Hp) (v : V) : Option (List Int) → Prop
  | none => v = .non
  | some S => LiN H H' v S
theorem find_none {α : Type} {p : α → Bool} {l : List α} {i : Nat} {x : α} (h : (l.take i).find? p = none) (hx : l[i]? = some x) (hp : p x = false) : (l.take (i + 1)).find? p = none := by
  rw [take_snoc hx, List.find?_append, h, Option.none_or]
  simp [hp]
theorem find_some {α : Type} {p : α → Bool} {l : List α} {i : Nat} {x : α} (h : (l.take i).find? p = none) (hx : l[i]? = some x) (hp : p x = true) : l.find? p = some x := by
  have hi := (List.getElem?_eq_some_iff.mp hx)
  have e : l = l.take i ++ x :: l.drop (i + 1) := by
    rw [← hi.2, ← List.drop_eq_getElem_cons hi.1, List.take_append_drop]
  rw [e, List.find?_append, h, Option.none_or, List.find?_cons, hp]
def sp_least_barring (K : PySem.W.Frag) (CT : Addr) (tabs : List (Addr × Str)) : Sp := fun vs H Q _ => ∃ (t p : Addr) (w : Nat) (rows : List (List Int)) (od : List Int), vs = [.ref t, .ref p] ∧ Od K CT H t p w rows od ∧ od.length - 1 ≤ 8 ∧ Tabs tabs H ∧ ∀ v H', ExtN H H' → Tabs tabs H' → OptL H H' v (leastB rows od w) → Q v H'
section
variable {w : World} {K : PySem.W.Frag} {mg : Str → Option Value} {base : Heap}
theorem ok_least_barring (T : Txt K mg) (hB : T.Bs base) : FnOk PR w K mg base (L2.CX PR w) 8 T.a_least_barring T.d_least_barring ["table", "order"] (sp_least_barring K T.c_Table T.tabs) := by
  refine T.f_least_barring.okX sc_least_barring (fun vs H Q E h => ?_) (fun cdv A outer s H vs Q E hr h => ?_)
  · obtain ⟨t, p, w, rows, od, rfl, _⟩ := h
    rfl
  · obtain ⟨t, p, w, rows, od, rfl, o, om, hT, k⟩ := h
    refine ⟨_, (pss_cons (ps_expr (pe_call (ok_need_order T) (hr.mono (by decide)) (by rfl) T.g_need_order T.f_need_order.kp (b_need_order T) .nil passX (pa_cons (pe_callB (cr_lenO (ok_Table___len__ T) (hr.mono (by decide)) T.m_Table___len__.at_ T.m_Table___len__.fn (b_Table___len__ T) pass0) (by rfl) T.z_len PySem.boot_len (pa_cons (pv 0) pa_nil)) (pa_cons (pv 1) pa_nil)))) (pss_cons (ps_set (i := 2) sc_least_barring.nd rfl (by first | exact Or.inl rfl | exact Or.inr rfl) (pe_make T.mk_Spots (ok_Spots___init__ T) (hr.mono (by decide)) (by rfl) T.g_Spots (b_Spots___init__ T) .nil passX (pa_cons (pv 0) (pa_cons (pv 1) pa_nil)))) (pss_cons (ps_for (passes_of rfl) rfl (pi_list (pe_call (ok_parts_of T hB) (hr.mono (by decide)) (by rfl) T.g_parts_of T.f_parts_of.kp (b_parts_of T) .nil pass0 (pa_cons (pe_listRgG (by rfl) (by rfl) T.z_list (prg_1 (by rfl) T.z_range (pe_fld (pv 2) rfl))) pa_nil))) (pg_name (i := 3) sc_least_barring.nd rfl (by first | exact Or.inl rfl | exact Or.inr rfl)) (pss_one (ps_if (pt_val (pe_meth (pv 2) T.cl_Spots T.m_Spots_bars (ok_Spots_bars T) (hr.mono (by decide)) (b_Spots_bars T) .nil pass0 (pa_cons (pv 3) pa_nil))) (pss_one (ps_ret (pv 3))) pss_nil))) (pss_one (ps_ret pe_non))))), ?_⟩
    obtain ⟨dx, fs, h0⟩ : ∃ dx fs, H t = some (.ins T.c_Table dx fs) := let ⟨dx, _, _, h, _⟩ := o.tab; ⟨dx, _, h⟩
    have few := o.few
    have ol := o.ol
    have wd := o.wd
    refine ⟨_, rfl, t, dx, fs, rfl, h0, t, w, rows, rfl, o.tab, _, rfl, by omega, by omega, _, rfl, rows.length, p, od, rfl, o.sq, o.pm, by omega, fun H1 e1 => ?_⟩
    have o1 := o.ex e1
    refine ⟨_, rfl, _, rfl, ?_⟩
    refine mkObj (Q := fun v H => gName 2 v _ H _) (R := fun H x => SpO T.c_Spots H x rows od w) (fun x dx' G0 nx f0 hx kk => ?_) (fun x H2 nx e2 hS => ?_)
    · exact ⟨x, _, t, p, w, rows, od, rfl, hx, (o1.ex f0).tab, (o1.ex f0).sq, o.pm, o.few, o.wd, fun H' e' s' => ⟨rfl, kk H' e' s'⟩⟩
    obtain ⟨dx2, sp, dp, ss, g1, g2, g3, g4⟩ := id hS
    refine ⟨_, rfl, x, _, dx2, _, _, rfl, g1, T.cl_Spots, T.na_Spots_size, sf_size _ _ _, _, rfl, rgo (od.length - 1) (by omega), fun l H3 n3 e3 hl => ?_⟩
    have hl : H3 l = some (.lst ((ns (od.length - 1)).map V.int)) := by rw [hl, rgV_upN]; rfl
    have e03 := e1.trans (e2.trans e3)
    refine ⟨l, od.length - 1, rfl, sqI hl, om, hT.ext e03, fun a us H4 n4 e4 t4 h4 a4 => ?_⟩
    have x04 : ExtN H H4 := (ExtN.of e03).trans e4
    have hS4 := hS.extN ((ExtN.of e3).trans e4)
    have g14 := extN_i ((ExtN.of e3).trans e4) g1
    refine ⟨a, rfl, ⟨_, sqI h4⟩, for_list (K := K) (a := a) (xs := us) (fun i σ H' => ∃ v3 : Option V, σ = [some (.ref t), some (.ref p), some (.ref x), v3] ∧ Ex H4 H' ∧ ((partsS (od.length - 1)).take i).find? (barB rows od w) = none) ⟨_, rfl, Evl.Ex.refl _, rfl⟩ (fun i σ H' _ ⟨_, _, e, _⟩ => sqI (e _ _ h4)) ?_ ?_⟩
    · rintro i v σ H5 hi ⟨v3, rfl, e5, f5⟩
      obtain ⟨S, hS', q, rfl, nq, hq⟩ := a4.get hi
      have Sm := partsS_mem.mp (List.mem_of_getElem? hS')
      have Sl := parts_small _ S Sm
      refine ⟨_, rfl, x, dx2, _, rfl, e5 _ _ g14, sf_no _ _ _ (by decide +kernel) (by decide +kernel) (by decide +kernel), _, rfl, x, q, rows, od, S, w, rfl, hS4.ex e5, by omega, ⟨sqI (e5 _ _ hq), parts_sub _ S Sm, by omega⟩, fun H6 e6 => ?_⟩
      refine ⟨_, rfl, ?_⟩
      refine ifB (fun z => ?_) (fun z => ?_)
      · have fs := find_some f5 hS' z
        have e46 := e5.trans e6
        refine ⟨_, rfl, k _ H6 (x04.trans (ExtN.of e46)) (t4.ext e46) ?_⟩
        unfold leastB
        rw [fs]
        exact ⟨q, rfl, nq.back (ExtN.of e03), e46 _ _ hq⟩
      · exact ⟨_, rfl, e5.trans e6, find_none f5 hS' z⟩
    · rintro σ H5 ⟨v3, rfl, e5, f5⟩
      rw [a4.1, List.take_length] at f5
      refine k _ H5 (x04.trans (ExtN.of e5)) (t4.ext e5) ?_
      unfold leastB
      rw [f5]
      rfl
end
end K13
set_option Elab.async false
set_option pp.maxSteps 1200
set_option linter.all false
set_option maxRecDepth 100000
set_option maxHeartbeats 8000000
namespace K13
open PySem L2 My
open LamX (ExtN Tabs)
/-- the rows and an order of them, as the law holds them -/
structure Lo (K : PySem.W.Frag) (H : Hp) (r p : Addr) (w : Nat) (rows : List (List Int)) (od : List Int) : Prop where
  rq : RowsQ K H r rows
  rl : ∀ x ∈ rows, x.length = w
  sq : SqL K H p (od.map V.int)
  pm : od.Perm (ns rows.length)
  few : rows.length ≤ 100
  wd : w ≤ 100
theorem Lo.extN {K : PySem.W.Frag} {H H' : Hp} {r p : Addr} {w : Nat} {rows : List (List Int)} {od : List Int} (h : Lo K H r p w rows od) (e : ExtN H H') : Lo K H' r p w rows od := ⟨h.rq.extN e, h.rl, sql_extN e h.sq, h.pm, h.few, h.wd⟩
theorem Lo.ex {K : PySem.W.Frag} {H H' : Hp} {r p : Addr} {w : Nat} {rows : List (List Int)} {od : List Int} (h : Lo K H r p w rows od) (e : Ex H H') : Lo K H' r p w rows od := h.extN (ExtN.of e)
theorem Lo.ol {K : PySem.W.Frag} {H : Hp} {r p : Addr} {w : Nat} {rows : List (List Int)} {od : List Int} (h : Lo K H r p w rows od) : od.length = rows.length := by rw [h.pm.length_eq, ns_len]
theorem filt_nil {α : Type} [DecidableEq α] (l : List α) (p : α → Bool) : decide (l.filter p = []) = !l.any p := by
  rw [Bool.eq_iff_iff, decide_eq_true_eq, List.filter_eq_nil_iff]
  simp
def sp__law_step (K : PySem.W.Frag) : Sp := fun vs H Q _ => ∃ (r p : Addr) (c s : Int) (w : Nat) (rows : List (List Int)) (od : List Int), vs = [.ref r, .ref p, .int c, .int s] ∧ Lo K H r p w rows od ∧ c ∈ ns w ∧ s ∈ ns (od.length - 1) ∧ Q (.int (stp rows od c s)) H
def sp__law_mixed (K : PySem.W.Frag) : Sp := fun vs H Q _ => ∃ (r p q : Addr) (c : Int) (w : Nat) (rows : List (List Int)) (od S : List Int), vs = [.ref r, .ref p, .int c, .ref q] ∧ Lo K H r p w rows od ∧ c ∈ ns w ∧ SpL K H q S (od.length - 1) ∧ Evl.RetV (.bl (mixB rows od c S)) H Q
def sp__law_bars (K : PySem.W.Frag) : Sp := fun vs H Q _ => ∃ (r p q : Addr) (w : Nat) (rows : List (List Int)) (od S : List Int), vs = [.ref r, .ref p, .int (w : Nat), .ref q] ∧ Lo K H r p w rows od ∧ SqL K H q (S.map V.int) ∧ S.length ≤ 1000 ∧ Evl.RetV (.bl (judB rows od w S)) H Q
section
variable {w : World} {K : PySem.W.Frag} {mg : Str → Option Value} {base : Heap}
theorem ok__law_step (T : Txt K mg) : FnOk PR w K mg base CX0 1 T.a__law_step T.d__law_step ["_law_rows_here", "_law_order_here", "_law_column", "_law_spot"] (sp__law_step K) := by
  refine T.f__law_step.ok sc__law_step (fun vs H Q E h => ?_) (fun cdv A outer s H vs Q E hr h => ?_)
  · obtain ⟨r, p, c, s, w, rows, od, rfl, _⟩ := h
    rfl
  · obtain ⟨r, p, c, s, w, rows, od, rfl, o, hc, hs, k⟩ := h
    refine ⟨_, (pss_one (ps_ret (pe_op op_sub (pe_ix ix_list (pe_ix ix_list (pv 0) (pe_ix ix_list (pv 1) (pe_op op_add (pv 3) pe_int) (fun _ _ => rfl)) (fun _ _ => rfl)) (pv 2) (fun _ _ => rfl)) (pe_ix ix_list (pe_ix ix_list (pv 0) (pe_ix ix_list (pv 1) (pv 3) (fun _ _ => rfl)) (fun _ _ => rfl)) (pv 2) (fun _ _ => rfl))))), ?_⟩
    obtain ⟨c0, c1⟩ := ns_mem hc
    obtain ⟨i, hi, rfl⟩ := List.mem_map.mp hs
    have hi := List.mem_range.mp hi
    have m1 : ((i : Nat) : Int) ∈ ns od.length := List.mem_map.mpr ⟨i, List.mem_range.mpr (by omega), rfl⟩
    have m2 : ((i : Nat) : Int) + 1 ∈ ns od.length := List.mem_map.mpr ⟨i + 1, List.mem_range.mpr (by omega), by omega⟩
    obtain ⟨us1, q1, x1, a1, a2, a3, a4⟩ := o.rq.at o.rl (od_mem o.pm m1) c0 c1
    obtain ⟨us2, q2, x2, b1, b2, b3, b4⟩ := o.rq.at o.rl (od_mem o.pm m2) c0 c1
    exact ⟨_, rfl, _, rfl, _, rfl, _, _, rfl, rfl, _, _, _, _, rfl, rfl, o.sq, od_at m2, _, _, _, _, rfl, rfl, b1, b2, _, rfl, _, _, _, _, rfl, rfl, b3, b4, _, rfl, _, rfl, _, rfl, _, _, _, _, rfl, rfl, o.sq, od_at m1, _, _, _, _, rfl, rfl, a1, a2, _, rfl, _, _, _, _, rfl, rfl, a3, a4, _, _, rfl, rfl, k⟩
theorem ok__law_mixed (T : Txt K mg) : FnOk PR w K mg base CX0 2 T.a__law_mixed T.d__law_mixed ["_law_rows_here", "_law_order_here", "_law_column", "_law_spots"] (sp__law_mixed K) := by
  refine T.f__law_mixed.ok sc__law_mixed (fun vs H Q E h => ?_) (fun cdv A outer s H vs Q E hr h => ?_)
  · obtain ⟨r, p, q, c, w, rows, od, S, rfl, _⟩ := h
    rfl
  · obtain ⟨r, p, q, c, w, rows, od, S, rfl, o, hc, hS, k⟩ := h
    refine ⟨_, (pss_cons (ps_setLc (i := 4) (own := [("_law_spot", 5)]) (g := gName 5) (by rfl) sc__law_mixed.nd rfl rfl (sw_true rfl rfl rfl (by decide +kernel)) (pi_list (pv 3)) (blkOk_by (own := [("_law_spot", 5)]) (N := ["_law_rows_here", "_law_order_here", "_law_column", "_law_spots", "_law_steps", "_law_spot", "_law_step_here"]) (sc := (defScope s__law_mixed)) (by decide +kernel)) (fun _ _ _ _ _ => (pg_name (i := 5) sc__law_mixed.nd rfl (by first | exact Or.inl rfl | exact Or.inr rfl))) (fun _ _ _ _ _ => pts_nil) (fun _ _ _ _ _ => (pe_call (ok__law_step T) (hr.mono (by decide)) (by rfl) T.g__law_step T.f__law_step.kp (b__law_step T) .nil pass0 (pa_cons (pv 0) (pa_cons (pv 1) (pa_cons (pv 2) (pa_cons (pv 5) pa_nil))))))) (pss_one (ps_ret (pe_and (pe_cmpR (op_neD hr.units) (pe_lc (own := [("_law_step_here", 6)]) (g := gName 6) (by rfl) sc__law_mixed.nd (pi_list (pv 4)) (blkOk_by (own := [("_law_step_here", 6)]) (N := ["_law_rows_here", "_law_order_here", "_law_column", "_law_spots", "_law_steps", "_law_spot", "_law_step_here"]) (sc := (defScope s__law_mixed)) (by decide +kernel)) (fun _ _ _ _ _ => (pg_name (i := 6) sc__law_mixed.nd rfl (by first | exact Or.inl rfl | exact Or.inr rfl))) (fun _ _ _ _ _ => (pts_one (pt_cmpR op_gt (pv 6) pe_int (nomark _)))) (fun _ _ _ _ _ => (pv 6))) (pe_lstG pa_nil) (nomark _)) (pe_one (pe_cmpR (op_neD hr.units) (pe_lc (own := [("_law_step_here", 6)]) (g := gName 6) (by rfl) sc__law_mixed.nd (pi_list (pv 4)) (blkOk_by (own := [("_law_step_here", 6)]) (N := ["_law_rows_here", "_law_order_here", "_law_column", "_law_spots", "_law_steps", "_law_spot", "_law_step_here"]) (sc := (defScope s__law_mixed)) (by decide +kernel)) (fun _ _ _ _ _ => (pg_name (i := 6) sc__law_mixed.nd rfl (by first | exact Or.inl rfl | exact Or.inr rfl))) (fun _ _ _ _ _ => (pts_one (pt_cmpR op_lt (pv 6) pe_int (nomark _)))) (fun _ _ _ _ _ => (pv 6))) (pe_lstG pa_nil) (nomark _))))))), ?_⟩
    have few := hS.few
    refine ⟨_, rfl, q, rfl, ⟨_, hS.sq⟩, fun D hD => lc_mapG (K := K) (a := q) (ys := (S.map fun s => stp rows od c s).map V.int) hS.sq hD (by simp) (by rw [List.length_map]; exact Nat.le_trans few (by decide)) ?_ ?_⟩
    · intro i y z H' e' hy hz N Z kN
      obtain ⟨s, hs, rfl⟩ := mapI_get hy
      rw [List.getElem?_map, List.getElem?_map, hs] at hz
      cases hz
      refine ⟨rfl, ?_⟩
      show _
      exact ⟨_, rfl, _, rfl, _, rfl, _, rfl, r, p, c, s, w, rows, od, rfl, o.ex e', hc, hS.inn _ (List.mem_of_getElem? hs), kN H' (Evl.Ex.refl _)⟩
    intro H1 e1 d1
    have m1 : mixB rows od c S = ((S.map fun s => stp rows od c s).any (fun x => decide (x > 0)) && (S.map fun s => stp rows od c s).any (fun x => decide (x < 0))) := by
      unfold mixB
      rw [List.any_map, List.any_map]
      rfl
    rw [m1] at k
    have few' : (S.map fun s => stp rows od c s).length ≤ 1000 := by rw [List.length_map]; exact few
    refine ⟨_, rfl, D, rfl, ⟨_, sqI d1⟩, fun D2 hD2 => lc_filtI (ns := S.map fun s => stp rows od c s) (p := fun x => decide (x > 0)) (sqI d1) hD2 few' (fun x => rfl) ?_ ?_ ?_⟩
    · intro x H' hx e' R kR
      exact ⟨_, rfl, _, _, rfl, rfl, _, rfl, kR H' (Evl.Ex.refl _)⟩
    · intro x H' N hN
      exact ⟨_, rfl, hN⟩
    intro H2 e2 d2
    refine ⟨(by show 0 ≤ sizeLine; decide), fun p3 H3 n3 e3 h3 => ?_⟩
    refine neI_ (sqI (e3 _ _ d2)) (ys := []) (sqI h3) ⟨_, rfl, ?_⟩
    rw [filt_nil, Bool.not_not]
    have d1' := (e2.trans e3) _ _ d1
    have e13 := e1.trans (e2.trans e3)
    refine ifB (fun z => ?_) (fun z => ?_)
    · rw [z, Bool.true_and] at k
      refine ⟨_, rfl, D, rfl, ⟨_, sqI d1'⟩, fun D4 hD4 => lc_filtI (ns := S.map fun s => stp rows od c s) (p := fun x => decide (x < 0)) (sqI d1') hD4 few' (fun x => rfl) ?_ ?_ ?_⟩
      · intro x H' hx e' R kR
        exact ⟨_, rfl, _, _, rfl, rfl, _, rfl, kR H' (Evl.Ex.refl _)⟩
      · intro x H' N hN
        exact ⟨_, rfl, hN⟩
      intro H4 e4 d4
      refine ⟨(by show 0 ≤ sizeLine; decide), fun p5 H5 n5 e5 h5 => ?_⟩
      refine neI_ (sqI (e5 _ _ d4)) (ys := []) (sqI h5) ?_
      rw [filt_nil, Bool.not_not]
      exact k H5 (e13.trans (e4.trans e5))
    · rw [z, Bool.false_and] at k
      exact k H3 e13
theorem ok__law_bars (T : Txt K mg) : FnOk PR w K mg base CX0 3 T.a__law_bars T.d__law_bars ["_law_rows_here", "_law_order_here", "_law_width", "_law_spots"] (sp__law_bars K) := by
  refine T.f__law_bars.ok sc__law_bars (fun vs H Q E h => ?_) (fun cdv A outer s H vs Q E hr h => ?_)
  · obtain ⟨r, p, q, w, rows, od, S, rfl, _⟩ := h
    rfl
  · obtain ⟨r, p, q, w, rows, od, S, rfl, o, hq, few, k⟩ := h
    refine ⟨_, (pss_cons (ps_if (pt_cmpR (op_neD hr.units) (pe_lc (own := [("_law_spot", 6)]) (g := gName 6) (by rfl) sc__law_bars.nd (pi_list (pv 3)) (blkOk_by (own := [("_law_spot", 6)]) (N := ["_law_rows_here", "_law_order_here", "_law_width", "_law_spots", "_law_column", "_law_tied", "_law_spot"]) (sc := (defScope s__law_bars)) (by decide +kernel)) (fun _ _ _ _ _ => (pg_name (i := 6) sc__law_bars.nd rfl (by first | exact Or.inl rfl | exact Or.inr rfl))) (fun _ _ _ _ _ => (pts_one (pt_not (pt_chain op_le op_lt pe_int (pv 6) (pe_op op_sub (pe_callB (crK (r := rLenSq) (K := K) (by rfl) call_len_seq) (by rfl) T.z_len PySem.boot_len (pa_cons (pv 1) pa_nil)) pe_int))))) (fun _ _ _ _ _ => (pv 6))) (pe_lstG pa_nil) (nomark _)) (pss_one (ps_ret pe_bl)) pss_nil) (pss_cons (ps_if (pt_cmpR (op_eqD hr.units) (pe_lc (own := [("_law_spot", 6)]) (g := gName 6) (by rfl) sc__law_bars.nd (pi_list (pv 3)) (blkOk_by (own := [("_law_spot", 6)]) (N := ["_law_rows_here", "_law_order_here", "_law_width", "_law_spots", "_law_column", "_law_tied", "_law_spot"]) (sc := (defScope s__law_bars)) (by decide +kernel)) (fun _ _ _ _ _ => (pg_name (i := 6) sc__law_bars.nd rfl (by first | exact Or.inl rfl | exact Or.inr rfl))) (fun _ _ _ _ _ => (pts_one (pt_cmpR op_gt (pe_ix (ixK (r := rIxL) (K := K) (by rfl) ix_list) (pv 1) (pv 6) (fun _ _ => rfl)) (pe_ix (ixK (r := rIxL) (K := K) (by rfl) ix_list) (pv 1) (pe_op op_add (pv 6) pe_int) (fun _ _ => rfl)) (nomark _)))) (fun _ _ _ _ _ => (pv 6))) (pe_lstG pa_nil) (nomark _)) (pss_one (ps_ret pe_bl)) pss_nil) (pss_cons (ps_for PassesOwn.never rfl (pi_range1 (by rfl) T.z_range (pa_cons (pv 2) pa_nil)) (pg_name (i := 4) sc__law_bars.nd rfl (by first | exact Or.inl rfl | exact Or.inr rfl)) (pss_cons (ps_set (i := 5) sc__law_bars.nd rfl (by first | exact Or.inl rfl | exact Or.inr rfl) (pe_cmpR (op_eqD hr.units) (pe_lc (own := [("_law_spot", 6)]) (g := gName 6) (by rfl) sc__law_bars.nd (pi_list (pv 3)) (blkOk_by (own := [("_law_spot", 6)]) (N := ["_law_rows_here", "_law_order_here", "_law_width", "_law_spots", "_law_column", "_law_tied", "_law_spot"]) (sc := (defScope s__law_bars)) (by decide +kernel)) (fun _ _ _ _ _ => (pg_name (i := 6) sc__law_bars.nd rfl (by first | exact Or.inl rfl | exact Or.inr rfl))) (fun _ _ _ _ _ => (pts_one (pt_cmpR op_ne (pe_call (ok__law_step T) (hr.mono (by decide)) (by rfl) T.g__law_step T.f__law_step.kp (b__law_step T) .nil pass0 (pa_cons (pv 0) (pa_cons (pv 1) (pa_cons (pv 4) (pa_cons (pv 6) pa_nil))))) pe_int (nomark _)))) (fun _ _ _ _ _ => (pv 6))) (pe_lstG pa_nil) (nomark _))) (pss_one (ps_if (PW.pt (pw_and (pt_not (pt_val (pv 5))) (pw_and1 (pt_not (pt_val (pe_call (ok__law_mixed T) (hr.mono (by decide)) (by rfl) T.g__law_mixed T.f__law_mixed.kp (b__law_mixed T) .nil pass0 (pa_cons (pv 0) (pa_cons (pv 1) (pa_cons (pv 4) (pa_cons (pv 3) pa_nil)))))))))) (pss_one (ps_ret pe_bl)) pss_nil)))) (pss_one (ps_ret pe_bl))))), ?_⟩
    have ol := o.ol
    have ofew := o.few
    refine ⟨_, rfl, q, rfl, ⟨_, hq⟩, fun D hD => lc_filtI (ns := S) (p := fun s => !decide (0 ≤ s ∧ s < ((od.length - 1 : Nat) : Int))) hq hD few (fun x => rfl) ?_ ?_ ?_⟩
    · intro s H' hs e' R kR
      have ol' : ((od.map V.int).length : Int) - 1 = (od.length : Int) - 1 := by rw [List.length_map]
      refine ⟨_, rfl, _, _, rfl, rfl, _, rfl, ifB (fun z => ?_) (fun z => ?_)⟩
      · have z : (0 : Int) ≤ s := of_decide_eq_true z
        refine ⟨_, rfl, _, _, rfl, .inl (Evl.ex_l e' o.sq), _, _, rfl, rfl, _, _, rfl, rfl, _, rfl, ?_⟩
        rw [ol']
        have e : decide (s < (od.length : Int) - 1) = decide (0 ≤ s ∧ s < ((od.length - 1 : Nat) : Int)) := by
          rw [decide_eq_decide]
          omega
        rw [e]
        exact kR H' (Evl.Ex.refl _)
      · have z : ¬ (0 : Int) ≤ s := of_decide_eq_false z
        have e : decide (0 ≤ s ∧ s < ((od.length - 1 : Nat) : Int)) = false := decide_eq_false (fun y => z y.1)
        rw [e] at kR
        exact ⟨_, rfl, kR H' (Evl.Ex.refl _)⟩
    · intro x H' N hN
      exact ⟨_, rfl, hN⟩
    intro H1 e1 d1
    refine ⟨(by show 0 ≤ sizeLine; decide), fun p2 H2 n2 e2 h2 => ?_⟩
    refine neI_ (sqI (e2 _ _ d1)) (ys := []) (sqI h2) ⟨_, rfl, ?_⟩
    rw [filt_nil, Bool.not_not]
    have e02 := e1.trans e2
    have ja : judB rows od w S = (!(S.any fun s => !decide (0 ≤ s ∧ s < ((od.length - 1 : Nat) : Int))) && barB rows od w S) := by
      unfold judB
      congr 1
      induction S with
      | nil => rfl
      | cons x S _ => simp [List.all_eq_not_any_not]
    refine ifB (fun z => ?_) (fun z => ?_)
    · rw [ja, z] at k
      exact k H2 e02
    rw [ja, z, Bool.not_false, Bool.true_and] at k
    have inn : ∀ s ∈ S, s ∈ ns (od.length - 1) := fun s hs => by
      have := List.any_eq_false.mp z s hs
      have := of_decide_eq_true (show decide (0 ≤ s ∧ s < ((od.length - 1 : Nat) : Int)) = true by simpa using this)
      exact List.mem_map.mpr ⟨s.toNat, List.mem_range.mpr (by omega), by omega⟩
    have hq2 := Evl.ex_l e02 hq
    have o2 := o.ex e02
    refine ⟨_, rfl, q, rfl, ⟨_, hq2⟩, fun D3 hD3 => lc_filtI (ns := S) (p := dsc od) hq2 hD3 few (fun x => rfl) ?_ ?_ ?_⟩
    · intro s H' hs e' R kR
      obtain ⟨i, hi, rfl⟩ := List.mem_map.mp (inn s hs)
      have hi := List.mem_range.mp hi
      have m1 : ((i : Nat) : Int) ∈ ns od.length := List.mem_map.mpr ⟨i, List.mem_range.mpr (by omega), rfl⟩
      have m2 : ((i : Nat) : Int) + 1 ∈ ns od.length := List.mem_map.mpr ⟨i + 1, List.mem_range.mpr (by omega), by omega⟩
      exact ⟨_, rfl, _, rfl, _, _, _, _, rfl, rfl, Evl.ex_l e' o2.sq, od_at m1, _, rfl, _, rfl, _, _, rfl, rfl, _, _, _, _, rfl, rfl, Evl.ex_l e' o2.sq, od_at m2, _, _, rfl, rfl, _, rfl, kR H' (Evl.Ex.refl _)⟩
    · intro x H' N hN
      exact ⟨_, rfl, hN⟩
    intro H3 e3 d3
    refine ⟨(by show 0 ≤ sizeLine; decide), fun p4 H4 n4 e4 h4 => ?_⟩
    refine eqI_ (sqI (e4 _ _ d3)) (ys := []) (sqI h4) ⟨_, rfl, ?_⟩
    rw [filt_nil]
    have e04 := e02.trans (e3.trans e4)
    have ba : barB rows od w S = (S.any (dsc od) && colB rows od w S) := rfl
    refine ifB (fun y => ?_) (fun y => ?_)
    · have y : S.any (dsc od) = false := by simpa using y
      rw [ba, y, Bool.false_and] at k
      exact k H4 e04
    have y : S.any (dsc od) = true := by simpa using y
    rw [ba, y, Bool.true_and] at k
    have wfew := o.wd
    refine ⟨_, rfl, _, rfl, by omega, by omega, for_range (lo := 0) (n := ((w : Nat) : Int).toNat) (fun i σ H' => ∃ v4 v5 : Option V, σ = [some (.ref r), some (.ref p), some (.int (w : Nat)), some (.ref q), v4, v5, none] ∧ Ex H H' ∧ ∀ c : Nat, c < i → (tieB rows od (c : Int) S || mixB rows od (c : Int) S) = true) ⟨_, _, rfl, e04, fun c h => nomatch h⟩ ?_ ?_⟩
    · rintro i σ H5 hi ⟨v4, v5, rfl, e5, al⟩
      have hi : i < w := by omega
      have o5 := o.ex e5
      have hq5 := Evl.ex_l e5 hq
      have ei : (0 : Int) + (i : Int) = (i : Int) := Int.zero_add _
      have cin : (0 : Int) + (i : Int) ∈ ns w := List.mem_map.mpr ⟨i, List.mem_range.mpr hi, ei.symm⟩
      refine ⟨_, rfl, q, rfl, ⟨_, hq5⟩, fun D6 hD6 => lc_filtI (ns := S) (p := fun s => !decide (stp rows od (0 + (i : Int)) s = 0)) hq5 hD6 few (fun x => rfl) ?_ ?_ ?_⟩
      · intro s H' hs e' R kR
        refine ⟨_, rfl, _, rfl, _, rfl, _, rfl, r, p, 0 + (i : Int), s, w, rows, od, rfl, o5.ex e', cin, inn s hs, rfl, _, rfl, ?_⟩
        rw [decInt]
        exact kR H' (Evl.Ex.refl _)
      · intro x H' N hN
        exact ⟨_, rfl, hN⟩
      intro H6 e6 d6
      refine ⟨(by show 0 ≤ sizeLine; decide), fun p7 H7 n7 e7 h7 => ?_⟩
      refine eqI_ (sqI (e7 _ _ d6)) (ys := []) (sqI h7) ?_
      have te : decide ((S.filter fun s => !decide (stp rows od (0 + (i : Int)) s = 0)) = []) = tieB rows od (i : Int) S := by
        rw [filt_nil, ei]
        unfold tieB
        rw [List.all_eq_not_any_not]
      rw [te]
      have e07 := e5.trans (e6.trans e7)
      have go : (tieB rows od (i : Int) S || mixB rows od (i : Int) S) = true → ∀ c : Nat, c < i + 1 → (tieB rows od (c : Int) S || mixB rows od (c : Int) S) = true := fun h c hc => by
        by_cases z : c = i
        · rw [z]; exact h
        · exact al c (by omega)
      refine ⟨_, rfl, _, rfl, ?_⟩
      refine ifB (fun t => ?_) (fun t => ?_)
      · have t : tieB rows od (i : Int) S = false := by simpa using t
        refine ⟨_, rfl, _, rfl, _, rfl, _, rfl, r, p, q, 0 + (i : Int), w, rows, od, S, rfl, o.ex e07, cin, ⟨Evl.ex_l e07 hq, inn, few⟩, fun H8 e8 => ?_⟩
        rw [ei]
        refine ⟨_, rfl, ?_⟩
        refine ifB (fun m => ?_) (fun m => ?_)
        · have m : mixB rows od (i : Int) S = false := by simpa using m
          have cb : colB rows od w S = false := by
            unfold colB
            rw [List.all_eq_false]
            exact ⟨(i : Int), List.mem_map.mpr ⟨i, List.mem_range.mpr hi, rfl⟩, by rw [t, m]; simp⟩
          rw [cb] at k
          exact k H8 (e07.trans e8)
        · have m : mixB rows od (i : Int) S = true := by simpa using m
          exact ⟨_, _, rfl, e07.trans e8, go (by rw [m, Bool.or_true])⟩
      · have t : tieB rows od (i : Int) S = true := by simpa using t
        exact ⟨_, _, rfl, e07, go (by rw [t, Bool.true_or])⟩
    · rintro σ H5 ⟨v4, v5, rfl, e5, al⟩
      have cb : colB rows od w S = true := List.all_eq_true.mpr fun c hc => by
        obtain ⟨j, hj, rfl⟩ := List.mem_map.mp hc
        exact al j (by have := List.mem_range.mp hj; omega)
      rw [cb] at k
      exact k H5 e5
end
end K13
set_option Elab.async false
set_option pp.maxSteps 1200
set_option linter.all false
set_option maxRecDepth 100000
set_option maxHeartbeats 8000000
namespace K13
open PySem L2 My
open LamX (ExtN Tabs)
/-- as Lo, with the deck elsewhere -/
structure LoX (K : PySem.W.Frag) (j : Addr) (H : Hp) (r p : Addr) (w : Nat) (rows : List (List Int)) (od : List Int) : Prop where
  rq : ∃ us, H r = some (.lst us) ∧ r ≠ j ∧ AllR (RwX j H) us rows
  rl : ∀ x ∈ rows, x.length = w
  sq : H p = some (.lst (od.map V.int)) ∧ p ≠ j
  pm : od.Perm (ns rows.length)
  few : rows.length ≤ 100
  wd : w ≤ 100
theorem LoX.lo {K : PySem.W.Frag} {j : Addr} {H : Hp} {r p : Addr} {w : Nat} {rows : List (List Int)} {od : List Int} (h : LoX K j H r p w rows od) : Lo K H r p w rows od :=
  ⟨(let ⟨us, a, _, b⟩ := h.rq; ⟨us, sqI a, b.mono fun v x ⟨q, z1, _, z2⟩ => ⟨q, z1, sqI z2⟩⟩), h.rl, sqI h.sq.1, h.pm, h.few, h.wd⟩
theorem LoX.exj {K : PySem.W.Frag} {j : Addr} {H H' : Hp} {r p : Addr} {w : Nat} {rows : List (List Int)} {od : List Int} (h : LoX K j H r p w rows od) (e : Exj j H H') : LoX K j H' r p w rows od :=
  ⟨(let ⟨us, a, n, b⟩ := h.rq; ⟨us, e _ _ n a, n, b.mono fun v x r => r.exj e⟩), h.rl, ⟨e _ _ h.sq.2 h.sq.1, h.sq.2⟩, h.pm, h.few, h.wd⟩
theorem LoX.extN {K : PySem.W.Frag} {j : Addr} {H H' : Hp} {r p : Addr} {w : Nat} {rows : List (List Int)} {od : List Int} (h : LoX K j H r p w rows od) (e : ExtN H H') : LoX K j H' r p w rows od :=
  ⟨(let ⟨us, a, n, b⟩ := h.rq; ⟨us, extN_l e a, n, b.mono fun v x ⟨q, z1, z2, z3⟩ => ⟨q, z1, z2, extN_l e z3⟩⟩), h.rl, ⟨extN_l e h.sq.1, h.sq.2⟩, h.pm, h.few, h.wd⟩
def sp__law_chosen (K : PySem.W.Frag) : Sp := fun vs H Q _ => ∃ (j r p : Addr) (w : Nat) (n : Int) (rows : List (List Int)) (od : List Int), vs = [.ref j, .ref r, .ref p, .int (w : Nat)] ∧ Deck H j n ∧ n ≤ 900000 ∧ LoX K j H r p w rows od ∧
  ∀ t a b G L H', H a = none → H b = none → a ≠ b → Exj j H H' → Deck H' j (n + 100) → H' t = some (.tup [.ref a, .ref b]) → H' a = some (.lst (G.map V.int)) → H' b = some (.lst (L.map V.int)) → Stl rows od w G L → Q (.ref t) H'
section
variable {w : World} {K : PySem.W.Frag} {mg : Str → Option Value} {base : Heap}
theorem ok__law_chosen (T : Txt K mg) : FnOk PR w K mg base CX0 3 T.a__law_chosen T.d__law_chosen ["_law_deck", "_law_rows_here", "_law_order_here", "_law_width"] (sp__law_chosen K) := by
  refine T.f__law_chosen.ok sc__law_chosen (fun vs H Q E h => ?_) (fun cdv A outer s H vs Q E hr h => ?_)
  · obtain ⟨j, r, p, w, n, rows, od, rfl, _⟩ := h
    rfl
  · obtain ⟨j, r, p, w, n, rows, od, rfl, hj, hn, o, k⟩ := h
    refine ⟨_, (pss_cons (ps_set (i := 4) sc__law_chosen.nd rfl (by first | exact Or.inl rfl | exact Or.inr rfl) (pe_lstG pa_nil)) (pss_cons (ps_set (i := 5) sc__law_chosen.nd rfl (by first | exact Or.inl rfl | exact Or.inr rfl) (pe_listRgG (by rfl) (by rfl) T.z_list (prg_1 (by rfl) T.z_range (pe_callB (call_max2 rfl) (by rfl) T.z_max (by decide +kernel) (pa_cons pe_int (pa_cons (pe_op op_sub (pe_callB call_len_seq (by rfl) T.z_len PySem.boot_len (pa_cons (pv 2) pa_nil)) pe_int) pa_nil)))))) (pss_cons (ps_for PassesOwn.never rfl (pi_range1 (by rfl) T.z_range (pa_cons (pv 3) pa_nil)) (pg_name (i := 6) sc__law_chosen.nd rfl (by first | exact Or.inl rfl | exact Or.inr rfl)) (pss_cons (ps_setLc (i := 7) (own := [("_law_one", 9)]) (g := gName 9) (by rfl) sc__law_chosen.nd rfl rfl (sw_true rfl rfl rfl (by decide +kernel)) (pi_range1 (by rfl) T.z_range (pa_cons (pv 3) pa_nil)) (blkOk_by (own := [("_law_one", 9)]) (N := ["_law_deck", "_law_rows_here", "_law_order_here", "_law_width", "_law_found", "_law_left", "_law_turn", "_law_some", "_law_column", "_law_one", "_law_spot"]) (sc := (defScope s__law_chosen)) (by decide +kernel)) (fun _ _ _ _ _ => (pg_name (i := 9) sc__law_chosen.nd rfl (by first | exact Or.inl rfl | exact Or.inr rfl))) (fun _ _ _ _ _ => (pts_one (PW.pt (pw_and (pt_cmpR (opK (r := fun K => rIn K true) (K := K) (by rfl) op_notIn_seq) (pv 9) (pv 4) (by rfl)) (pw_and1 (pt_not (pt_val (pe_call (ok__law_mixed T) (hr.mono (by decide)) (by rfl) T.g__law_mixed T.f__law_mixed.kp (b__law_mixed T) .nil pass0 (pa_cons (pv 1) (pa_cons (pv 2) (pa_cons (pv 9) (pa_cons (pv 5) pa_nil)))))))))))) (fun _ _ _ _ _ => (pv 9))) (pss_one (ps_if (pt_cmpR (op_neD hr.units) (pv 7) (pe_lstG pa_nil) (nomark _)) (pss_cons (ps_set (i := 8) sc__law_chosen.nd rfl (by first | exact Or.inl rfl | exact Or.inr rfl) (pe_ix ix_list (pv 7) (pe_call (ok__law_draw T) (hr.mono (by decide)) (by rfl) T.g__law_draw T.f__law_draw.kp (b__law_draw T) .nil pass0 (pa_cons (pv 0) (pa_cons (pe_callB call_len_seq (by rfl) T.z_len PySem.boot_len (pa_cons (pv 7) pa_nil)) pa_nil))) (fun _ _ => rfl))) (pss_cons (ps_expr (pe_bm PySem.F.plainAttrs_list PySem.F.slot_list_append PySem.F.type_list_append mt_append (pv 4) (pa_cons (pv 8) pa_nil))) (pss_one (ps_set (i := 5) sc__law_chosen.nd rfl (by first | exact Or.inl rfl | exact Or.inr rfl) (pe_lc (own := [("_law_spot", 10)]) (g := gName 10) (by rfl) sc__law_chosen.nd (pi_list (pv 5)) (blkOk_by (own := [("_law_spot", 10)]) (N := ["_law_deck", "_law_rows_here", "_law_order_here", "_law_width", "_law_found", "_law_left", "_law_turn", "_law_some", "_law_column", "_law_one", "_law_spot"]) (sc := (defScope s__law_chosen)) (by decide +kernel)) (fun _ _ _ _ _ => (pg_name (i := 10) sc__law_chosen.nd rfl (by first | exact Or.inl rfl | exact Or.inr rfl))) (fun _ _ _ _ _ => (pts_one (pt_cmpR op_eq (pe_call (ok__law_step T) (hr.mono (by decide)) (by rfl) T.g__law_step T.f__law_step.kp (b__law_step T) .nil pass0 (pa_cons (pv 1) (pa_cons (pv 2) (pa_cons (pv 8) (pa_cons (pv 10) pa_nil))))) pe_int (nomark _)))) (fun _ _ _ _ _ => (pv 10))))))) pss_nil)))) (pss_one (ps_ret (pe_tupG (pa_cons (pe_callB cr_sortedG (by rfl) T.z_sorted (by decide +kernel) (pa_cons (pv 4) pa_nil)) (pa_cons (pv 5) pa_nil)))))))), ?_⟩
    have ol := o.lo.ol
    have few := o.few
    have wd := o.wd
    refine ⟨(by show 0 ≤ sizeLine; decide), fun fo H1 n1 e1 hfo => ?_⟩
    have nfj := hj.ne n1
    refine ⟨_, rfl, _, _, rfl, .inl (sqI (e1 _ _ o.sq.1)), _, _, rfl, rfl, _, _, rfl, ?_⟩
    have em : (if ((od.map V.int).length : Int) - 1 > 0 then ((od.map V.int).length : Int) - 1 else 0) = ((od.length - 1 : Nat) : Int) := by
      rw [List.length_map]
      split <;> omega
    rw [em]
    refine ⟨_, rfl, rgo (od.length - 1) (by omega), fun l0 H2 n2 e2 hl0 => ?_⟩
    have hl0 : H2 l0 = some (.lst ((ns (od.length - 1)).map V.int)) := by rw [hl0, rgV_upN]; rfl
    have e02 := e1.trans e2
    have nl0j : l0 ≠ j := (hj.ex e1).ne n2
    refine ⟨_, rfl, _, rfl, by omega, by omega, for_range (lo := 0) (n := ((w : Nat) : Int).toNat) (fun i σ H' => ∃ (le : Addr) (F L : List Int) (v6 v7 v8 : Option V), σ = [some (.ref j), some (.ref r), some (.ref p), some (.int (w : Nat)), some (.ref fo), some (.ref le), v6, v7, v8, none, none] ∧ Exj j H H' ∧ Deck H' j (n + i) ∧ H' fo = some (.lst (F.map V.int)) ∧ H' le = some (.lst (L.map V.int)) ∧ H le = none ∧ le ≠ fo ∧ le ≠ j ∧ Run rows od w (od.length - 1) F L ∧ (i ≤ F.length ∨ Fin rows od w F L)) ⟨l0, [], ns (od.length - 1), _, _, _, rfl, Exj.of e02, (hj.ex e02).mono (by omega), e2 _ _ hfo, hl0, Ex_back e1 n2, (ne_of_none hfo n2).symm, nl0j, .nil, .inl (Nat.le_refl _)⟩ ?_ ?_⟩
    · rintro i σ H3 hi ⟨le, F, L, v6, v7, v8, rfl, e3, j3, f3, g3, nle, nlf, nlj, rn, alt⟩
      have hi : i < w := by omega
      have o3 := o.exj e3
      have Ll : L.length ≤ 1000 := by
        have := ns_len_le (S := []) rn
        omega
      refine ⟨_, rfl, _, rfl, by omega, by omega, fun D hD => lc_filtR (lo := 0) (n := ((w : Nat) : Int).toNat) (p := fun c => !decide (c ∈ F) && !mixB rows od c L) hD (show _ ≤ 1000 by omega) (fun x => rfl) ?_ ?_ ?_⟩
      · intro c H' hc e' Z kZ
        have hc : c < w := by omega
        have cin : (0 : Int) + (c : Int) ∈ ns w := List.mem_map.mpr ⟨c, List.mem_range.mpr hc, (Int.zero_add _).symm⟩
        refine ⟨_, rfl, _, rfl, _, _, rfl, .inl (sqI (e' _ _ f3)), rfl, flatI F, _, rfl, ?_⟩
        rw [inV_int]
        refine ifB (fun z => ?_) (fun z => ?_)
        · have z : (!decide (0 + (c : Int) ∈ F)) = true := z
          rw [z, Bool.true_and] at kZ
          refine ⟨_, rfl, _, rfl, _, rfl, _, rfl, r, p, le, 0 + (c : Int), w, rows, od, L, rfl, o3.lo.ex e', cin, ⟨sqI (e' _ _ g3), rn.inn, Ll⟩, fun H5 e5 => ?_⟩
          exact ⟨_, rfl, kZ H5 e5⟩
        · have z : (!decide (0 + (c : Int) ∈ F)) = false := z
          rw [z, Bool.false_and] at kZ
          exact kZ H' (Evl.Ex.refl _)
      · intro x H' N hN
        exact ⟨_, rfl, hN⟩
      intro H4 e4 d4
      obtain ⟨cand, hcand⟩ : ∃ cand, cand = ((List.range ((w : Nat) : Int).toNat).map fun i => (0 : Int) + ((i : Nat) : Int)).filter fun c => !decide (c ∈ F) && !mixB rows od c L := ⟨_, rfl⟩
      rw [← hcand] at d4
      have cm : ∀ c, c ∈ cand ↔ c ∈ ns w ∧ c ∉ F ∧ mixB rows od c L = false := fun c => by
        rw [hcand, List.mem_filter]
        have e : ((List.range ((w : Nat) : Int).toNat).map fun i => (0 : Int) + ((i : Nat) : Int)) = ns w := by
          unfold ns
          rw [show ((w : Nat) : Int).toNat = w by omega]
          exact List.map_congr_left fun i _ => Int.zero_add _
        rw [e]
        simp
      refine ⟨_, rfl, (by show 0 ≤ sizeLine; decide), fun p5 H5 n5 e5 h5 => ?_⟩
      refine neI_ (sqI (e5 _ _ d4)) (ys := []) (sqI h5) ⟨_, rfl, ?_⟩
      have e35 := e4.trans e5
      refine ifB (fun z => ?_) (fun z => ?_)
      · have ne : cand ≠ [] := by simpa using z
        have cl : cand.length ≤ 100 := by
          rw [hcand]
          refine Nat.le_trans (List.length_filter_le _ _) ?_
          rw [List.length_map, List.length_range]
          omega
        have cpos : 0 < cand.length := List.length_pos_iff.mpr ne
        have d5 := e5 _ _ d4
        have nDj : D ≠ j := j3.ne hD
        refine ⟨_, rfl, _, rfl, _, rfl, _, _, rfl, .inl (sqI d5), j, _, _, rfl, j3.ex e35, by omega, ?_, ?_, fun m H6 m0 m1 e6 j6 => ?_⟩
        · rw [List.length_map]
          omega
        · rw [List.length_map]
          exact Int.lt_of_le_of_lt (show (cand.length : Int) ≤ 100 by omega) (by decide)
        rw [List.length_map] at m1
        obtain ⟨m, rfl⟩ : ∃ m' : Nat, m = (m' : Int) := ⟨m.toNat, by omega⟩
        have hm : cand[m]? = some (cand[m]'(by omega)) := List.getElem?_eq_getElem _
        generalize cand[m] = c at hm
        obtain ⟨cin, cf, cx⟩ := (cm c).mp (List.mem_of_getElem? hm)
        refine ⟨_, _, _, _, rfl, rfl, sqI (e6 _ _ nDj d5), (show atI (cand.map V.int) (m : Int) = some (.int c) from atI_nat (by rw [List.getElem?_map, hm]; rfl)), ?_⟩
        have y6 : Exj j H3 H6 := (Exj.of e35).trans e6
        have f6 := y6 _ _ nfj f3
        have fl := rn.len
        refine ⟨_, rfl, .inl ⟨rfl, _, sqI f6⟩, _, rfl, _, _, _, rfl, rfl, f6, ?_, ?_⟩
        · rw [List.length_map]
          exact Nat.lt_of_le_of_lt (show F.length ≤ 100 by omega) (by decide)
        have y7 : Exj j H (L2.upd H6 fo (.lst (F.map V.int ++ [.int c]))) := fun b o nb hb => by
          rw [upd_ne (ne_of_none hb n1)]
          exact y6 _ _ nb (e3 _ _ nb hb)
        have f7 : L2.upd H6 fo (.lst (F.map V.int ++ [.int c])) fo = some (.lst ((F ++ [c]).map V.int)) := by
          rw [upd_same, List.map_append]
          rfl
        have g7 : L2.upd H6 fo (.lst (F.map V.int ++ [.int c])) le = some (.lst (L.map V.int)) := by
          rw [upd_ne nlf]
          exact y6 _ _ nlj g3
        have j7 := j6.upd (o := .lst (F.map V.int ++ [.int c])) nfj
        generalize L2.upd H6 fo (.lst (F.map V.int ++ [.int c])) = H7 at y7 f7 g7 j7 ⊢
        have o7 := o.exj y7
        refine ⟨_, rfl, le, rfl, ⟨_, sqI g7⟩, fun D8 hD8 => lc_filtI (ns := L) (p := fun s => decide (stp rows od c s = 0)) (sqI g7) hD8 Ll (fun x => rfl) ?_ ?_ ?_⟩
        · intro s H8 hs e8 R kR
          refine ⟨_, rfl, _, rfl, _, rfl, _, rfl, r, p, c, s, w, rows, od, rfl, o7.lo.ex e8, cin, rn.inn s hs, rfl, _, rfl, ?_⟩
          rw [decInt]
          exact kR H8 (Evl.Ex.refl _)
        · intro x H' N hN
          exact ⟨_, rfl, hN⟩
        intro H8 e8 d8
        have nD8 : D8 ≠ fo := (ne_of_none f7 hD8).symm
        have nD8j : D8 ≠ j := j7.ne hD8
        exact ⟨D8, F ++ [c], cutS rows od c L, _, _, _, rfl, y7.trans (Exj.of e8), (j7.ex e8).mono (by omega), e8 _ _ f7, d8, y7.back nD8j hD8, nD8, nD8j, .snoc rn cin cf cx, by
          rw [List.length_append]
          rcases alt with z | z
          · exact .inl (by show i + 1 ≤ F.length + 1; omega)
          · have := z c cin cf
            rw [cx] at this
            cases this⟩
      · have e : cand = [] := by simpa using z
        refine ⟨le, F, L, _, _, _, rfl, e3.trans (Exj.of e35), (j3.ex e35).mono (by omega), e35 _ _ f3, e35 _ _ g3, nle, nlf, nlj, rn, .inr fun c hc cf => ?_⟩
        cases mx : mixB rows od c L with
        | true => rfl
        | false =>
          have := (cm c).mpr ⟨hc, cf, mx⟩
          rw [e] at this
          cases this
    · rintro σ H3 ⟨le, F, L, v6, v7, v8, rfl, e3, j3, f3, g3, nle, nlf, nlj, rn, alt⟩
      have fin : Fin rows od w F L := by
        rcases alt with z | z
        · have := rn.len
          exact rn.full (by omega)
        · exact z
      refine ⟨_, rfl, fo, F, rfl, sqI f3, fun ns' q1 q2 a H4 n4 e4 h5 => ?_⟩
      refine ⟨_, rfl, (by show 2 ≤ sizeLine; decide), fun t H5 n5 e5 ht => ?_⟩
      have naj : a ≠ j := j3.ne n4
      exact k t a le ns' L H5 (e3.back naj n4) nle (ne_of_none g3 n4).symm (e3.trans (Exj.of (e4.trans e5))) ((j3.ex (e4.trans e5)).mono (by omega)) ht (e5 _ _ h5) ((e4.trans e5) _ _ g3) ⟨F, rn, fin, q1, q2⟩
end
end K13
set_option Elab.async false
set_option pp.maxSteps 1200
set_option linter.all false
set_option maxRecDepth 100000
set_option maxHeartbeats 8000000
namespace K13
open PySem L2 My
open LamX (ExtN Tabs)
/-- all is kept but the object at j and the code tables -/
def ExjN (j : Addr) (H H' : Hp) : Prop := ∀ b o, b ≠ j → H b = some o → (∀ ps, o ≠ .tbl ps) → H' b = some o
theorem ExjN.of {j : Addr} {H H' : Hp} (e : Exj j H H') : ExjN j H H' := fun b o n h _ => e b o n h
theorem ExjN.ofN {j : Addr} {H H' : Hp} (e : ExtN H H') : ExjN j H H' := fun b o _ h t => e b o h t
theorem ExjN.trans {j : Addr} {H H1 H2 : Hp} (a : ExjN j H H1) (b : ExjN j H1 H2) : ExjN j H H2 := fun c o n h t => b c o n (a c o n h t) t
theorem NewN.backj {j : Addr} {H H' : Hp} {p : Addr} (n : NewN H' p) (e : ExjN j H H') (ne : p ≠ j) : NewN H p := fun o h => Classical.byContradiction fun z =>
  z (n o (e _ _ ne h fun ps q => z ⟨ps, q⟩))
theorem tabs_exj {T : List (Addr × Str)} {j : Addr} {H H' : Hp} {ys : List V} (t : Tabs T H) (e : Exj j H H') (hj : H j = some (.lst ys)) : Tabs T H' := fun p hp => by
  obtain ⟨ps, h1, h2, h3⟩ := t p hp
  refine ⟨ps, e _ _ (fun z => by rw [z, hj] at h1; cases h1) h1, h2, fun pos cv hc => ?_⟩
  obtain ⟨c, e1, e2⟩ := h3 pos cv hc
  exact ⟨c, e1, e _ _ (fun z => by rw [z, hj] at e2; cases e2) e2⟩
theorem tabs_upd {T : List (Addr × Str)} {j : Addr} {H : Hp} {xs ys : List V} (t : Tabs T H) (hj : H j = some (.lst xs)) : Tabs T (L2.upd H j (.lst ys)) :=
  tabs_exj t (fun b o n h => by rw [upd_ne n]; exact h) hj
theorem deck_extN {H H' : Hp} {j : Addr} {n : Int} (e : ExtN H H') : Deck H j n → Deck H' j n
  | ⟨x, y, z, h, r⟩ => ⟨x, y, z, extN_l e h, r⟩
theorem swap_perm {l : List Int} {i j : Nat} (hi : i < l.length) (hj : j < l.length) : ((l.set i l[j]).set j l[i]).Perm l := List.set_set_perm hi hj
theorem ixN_of {n j : Nat} (hj : j < n) : ixN n (j : Int) = some j := by
  unfold ixN
  rw [if_pos (by omega), if_pos (by omega)]
  rfl
def sp__law_drawn (K : PySem.W.Frag) (tabs : List (Addr × Str)) : Sp := fun vs H Q _ => ∃ (j r : Addr) (w : Nat) (n : Int) (rows : List (List Int)), vs = [.ref j, .ref r, .int (w : Nat)] ∧ Deck H j n ∧ n ≤ 900000 ∧ w ≤ 5 ∧ (∃ us, H r = some (.lst us) ∧ r ≠ j ∧ AllR (RwX j H) us rows) ∧ (∀ x ∈ rows, x.length = w) ∧ rows.length ≤ 100 ∧ Tabs tabs H ∧
  ∀ (a : Addr) (od : List Int) (H' : Hp), NewN H a → a ≠ j → ExjN j H H' → Tabs tabs H' → Deck H' j (n + 100) → H' a = some (.lst (od.map V.int)) → od.Perm (ns rows.length) → Q (.ref a) H'
section
variable {w : World} {K : PySem.W.Frag} {mg : Str → Option Value} {base : Heap}
theorem ok__law_drawn (T : Txt K mg) (hB : T.Bs base) : FnOk PR w K mg base CX0 3 T.a__law_drawn T.d__law_drawn ["_law_deck", "_law_rows_here", "_law_width"] (sp__law_drawn K T.tabs) := by
  refine T.f__law_drawn.ok sc__law_drawn (fun vs H Q E h => ?_) (fun cdv A outer s H vs Q E hr h => ?_)
  · obtain ⟨j, r, w, n, rows, rfl, _⟩ := h
    rfl
  · obtain ⟨j, r, w, n, rows, rfl, hj, hn, w5, hr0, rl, few, hT, k⟩ := h
    refine ⟨_, (pss_cons (ps_set (i := 3) sc__law_drawn.nd rfl (by first | exact Or.inl rfl | exact Or.inr rfl) (pe_call (ok__law_order T hB) (hr.mono (by decide)) (by rfl) T.g__law_order T.f__law_order.kp (b__law_order T) .nil pass0 (pa_cons (pv 1) (pa_cons (pe_call (ok__law_keys T) (hr.mono (by decide)) (by rfl) T.g__law_keys T.f__law_keys.kp (b__law_keys T) .nil pass0 (pa_cons (pv 0) (pa_cons (pv 2) pa_nil))) pa_nil)))) (pss_cons (ps_for PassesOwn.never rfl (pi_range1 (by rfl) T.z_range (pa_cons (pe_op op_mul (pe_call (ok__law_draw T) (hr.mono (by decide)) (by rfl) T.g__law_draw T.f__law_draw.kp (b__law_draw T) .nil pass0 (pa_cons (pv 0) (pa_cons pe_int pa_nil))) (pe_callTy call_int1 (by rfl) T.z_int (by decide +kernel) (pa_cons (pe_cmpR op_gt (pe_callB call_len_seq (by rfl) T.z_len PySem.boot_len (pa_cons (pv 1) pa_nil)) pe_int (nomark _)) pa_nil))) pa_nil)) (pg_name (i := 4) sc__law_drawn.nd rfl (by first | exact Or.inl rfl | exact Or.inr rfl)) (pss_cons (ps_par (by rfl) sc__law_drawn.nd rfl rfl (by decide) rfl rfl (i := 5) (j := 6) (pa_cons (pe_call (ok__law_draw T) (hr.mono (by decide)) (by rfl) T.g__law_draw T.f__law_draw.kp (b__law_draw T) .nil pass0 (pa_cons (pv 0) (pa_cons (pe_callB call_len_seq (by rfl) T.z_len PySem.boot_len (pa_cons (pv 1) pa_nil)) pa_nil))) (pa_cons (pe_call (ok__law_draw T) (hr.mono (by decide)) (by rfl) T.g__law_draw T.f__law_draw.kp (b__law_draw T) .nil pass0 (pa_cons (pv 0) (pa_cons (pe_callB call_len_seq (by rfl) T.z_len PySem.boot_len (pa_cons (pv 1) pa_nil)) pa_nil))) pa_nil)) (by rfl)) (pss_one (ps_asg (pe_tupG (pa_cons (pe_ix ix_list (pv 3) (pv 6) (fun _ _ => rfl)) (pa_cons (pe_ix ix_list (pv 3) (pv 5) (fun _ _ => rfl)) pa_nil))) (pg_tup rfl (pgs_cons (pg_sub (pv 3) (pv 5) set_list) (pgs_cons (pg_sub (pv 3) (pv 6) set_list) pgs_nil))))))) (pss_one (ps_ret (pv 3))))), ?_⟩
    obtain ⟨yj, hyj⟩ := id hj.at
    refine ⟨_, rfl, _, rfl, _, rfl, j, w, _, rfl, hj, by omega, w5, fun p ks H1 np pj e1 j1 hp kl vd mc => ?_⟩
    have kw : KsW (w : Nat) ks := ⟨vd, mc⟩
    obtain ⟨us, hu, nrj, ar⟩ := hr0
    have ul : us.length = rows.length := ar.1
    have hu1 := e1 _ _ nrj hu
    have ar1 : AllR (RwX j H1) us rows := ar.mono fun v x z => z.exj e1
    have rq1 : RowsQ K H1 r rows := ⟨us, sqI hu1, ar1.mono fun v x ⟨q, z1, _, z2⟩ => ⟨q, z1, sqI z2⟩⟩
    refine ⟨r, p, w, rows, ks, rfl, ⟨rq1, rl, by omega, hp.q, kw, by omega, tabs_exj hT e1 hyj⟩, fun a H2 na e2 t2 ha => ?_⟩
    have j2 := deck_extN e2 j1
    obtain ⟨y2, hy2⟩ := id j2.at
    obtain ⟨y1, hy1⟩ := id j1.at
    have naj : a ≠ j := na.nel hy1
    have x02 : ExjN j H H2 := (ExjN.of e1).trans (ExjN.ofN e2)
    have hu2 := extN_l e2 hu1
    have pm0 : (ordF rows ks).Perm (ns rows.length) := ordF_perm ks
    refine st_eq (σ' := [some (.ref j), some (.ref r), some (.int (w : Nat)), none, none, none, none]) (P := fun σ => gName 3 (.ref a) σ H2 _) rfl ?_
    refine ⟨_, rfl, j, _, _, rfl, j2, by omega, by decide, by decide, fun d H3 d0 d1 e3 j3 => ?_⟩
    refine ⟨_, rfl, _, _, rfl, .inl (sqI (e3 _ _ nrj hu2)), _, _, rfl, rfl, .inr ⟨_, rfl, ?_⟩⟩
    obtain ⟨kk, hkk, kk2⟩ : ∃ kk : Nat, d * (if decide ((us.length : Int) > 0) = true then (1 : Int) else 0) = (kk : Int) ∧ kk ≤ 2 ∧ (0 < kk → 0 < us.length) := by
      by_cases z : (us.length : Int) > 0
      · rw [decide_eq_true z, if_pos rfl]
        exact ⟨d.toNat, by omega, by omega, fun _ => by omega⟩
      · rw [decide_eq_false z, if_neg (by simp)]
        exact ⟨0, by omega, by omega, fun h => nomatch h⟩
    refine ⟨_, _, rfl, rfl, .inl ⟨by omega, by omega⟩, ?_⟩
    dsimp only [tNil]
    rw [hkk]
    have ha3 := e3 _ _ naj ha
    have hu3 := e3 _ _ nrj hu2
    have nra : a ≠ r := na.nel hu1
    refine ⟨_, rfl, by omega, by omega, ?_⟩
    refine for_range (D := { nx := tRet (tVar 3) { nx := fun _ H' => Q V.non H', rt := Q }, rt := Q }) (lo := 0) (n := ((kk : Nat) : Int).toNat) (fun i σ H' => ∃ (od : List Int) (v4 v5 v6 : Option V), σ = [some (.ref j), some (.ref r), some (.int (w : Nat)), some (.ref a), v4, v5, v6] ∧ (∀ b o, b ≠ j → b ≠ a → H3 b = some o → H' b = some o) ∧ Deck H' j (n + 30 + 2 * i) ∧ H' a = some (.lst (od.map V.int)) ∧ od.Perm (ns rows.length)) ⟨ordF rows ks, _, _, _, rfl, fun b o _ _ h => h, j3.mono (by omega), ha3, pm0⟩ ?_ ?_
    · rintro i σ H4 hi ⟨od, v4, v5, v6, rfl, e4, j4, ha4, pm⟩
      have upos : 0 < us.length := kk2.2 (by omega)
      have ol : od.length = rows.length := by rw [pm.length_eq, ns_len]
      have hu4 := e4 _ _ nrj nra.symm hu3
      refine ⟨_, rfl, _, rfl, _, _, rfl, .inl (sqI hu4), j, _, _, rfl, j4, by omega, by omega, Int.lt_of_le_of_lt (show (us.length : Int) ≤ 100 by omega) (by decide), fun x H5 x0 x1 e5 j5 => ?_⟩
      refine ⟨_, rfl, _, rfl, _, _, rfl, .inl (sqI (e5 _ _ nrj hu4)), j, _, _, rfl, j5, by omega, by omega, Int.lt_of_le_of_lt (show (us.length : Int) ≤ 100 by omega) (by decide), fun y H6 y0 y1 e6 j6 => ?_⟩
      refine ⟨_, _, rfl, ?_⟩
      obtain ⟨x, rfl⟩ : ∃ x' : Nat, x = (x' : Int) := ⟨x.toNat, by omega⟩
      obtain ⟨y, rfl⟩ : ∃ y' : Nat, y = (y' : Int) := ⟨y.toNat, by omega⟩
      have xl : x < od.length := by omega
      have yl : y < od.length := by omega
      have ha6 := e6 _ _ naj (e5 _ _ naj ha4)
      have ax : atI (od.map V.int) (x : Int) = some (.int od[x]) := atI_nat (by rw [List.getElem?_map, List.getElem?_eq_getElem xl]; rfl)
      have ay : atI (od.map V.int) (y : Int) = some (.int od[y]) := atI_nat (by rw [List.getElem?_map, List.getElem?_eq_getElem yl]; rfl)
      refine ⟨_, rfl, _, rfl, _, _, _, _, rfl, rfl, sqI ha6, ay, _, rfl, _, rfl, _, _, _, _, rfl, rfl, sqI ha6, ax, (by show 2 ≤ sizeLine; decide), fun tp H7 n7 e7 h7 => ?_⟩
      refine ⟨_, _, rfl, sqT h7, rfl, _, _, rfl, ?_⟩
      have ha7 := e7 _ _ ha6
      have pmo : ((od.set x od[y]).set y od[x]).Perm od := swap_perm xl yl
      refine ⟨_, rfl, _, rfl, a, _, _, x, rfl, rfl, ha7, ixN_of (by rw [List.length_map]; exact xl), ?_⟩
      refine ⟨_, _, rfl, ?_⟩
      refine ⟨_, rfl, _, rfl, a, _, _, y, rfl, rfl, upd_same, ixN_of (by rw [List.length_set, List.length_map]; exact yl), ?_⟩
      refine ⟨rfl, (od.set x od[y]).set y od[x], _, _, _, rfl, fun b o nb na o3 => ?_, ?_, ?_, pmo.trans pm⟩
      · rw [upd_ne na, upd_ne na]
        exact e7 _ _ (e6 _ _ nb (e5 _ _ nb (e4 _ _ nb na o3)))
      · exact Deck.upd naj (Deck.upd naj ((j6.ex e7).mono (by omega)))
      · rw [upd_same, List.map_set, List.map_set]
    · rintro σ H4 ⟨od, v4, v5, v6, rfl, e4, j4, ha4, pm⟩
      have na0 : NewN H a := NewN.backj na (ExjN.of e1) naj
      refine ⟨_, rfl, k a od H4 na0 naj ?_ ?_ (j4.mono (by omega)) ha4 pm⟩
      · intro b o nb hb ob
        have hb2 := x02 b o nb hb ob
        by_cases z : b = a
        · obtain ⟨ps, q⟩ := na0 o (z ▸ hb)
          exact absurd q (ob ps)
        · exact e4 _ _ nb z (e3 _ _ nb hb2)
      · intro q hq
        have t3 := tabs_exj t2 e3 hy2
        obtain ⟨ps, h1, h2, h3⟩ := t3 q hq
        obtain ⟨yj4, hyj4⟩ := id j3.at
        refine ⟨ps, e4 _ _ (fun z => by rw [z, hyj4] at h1; cases h1) (fun z => by rw [z, ha3] at h1; cases h1) h1, h2, fun pos cv hc => ?_⟩
        obtain ⟨c, c1, c2⟩ := h3 pos cv hc
        exact ⟨c, c1, e4 _ _ (fun z => by rw [z, hyj4] at c2; cases c2) (fun z => by rw [z, ha3] at c2; cases c2) c2⟩
end
end K13
set_option Elab.async false
set_option pp.maxSteps 1200
set_option linter.all false
set_option maxRecDepth 100000
set_option maxHeartbeats 8000000
namespace K13
open PySem L2 My
open LamX (ExtN Tabs)
theorem _root_.My.AllR.cons' {α : Type} {R : V → α → Prop} {v : V} {x : α} {vs : List V} {xs : List α} (h : R v x) (k : AllR R vs xs) : AllR R (v :: vs) (x :: xs) := (AllR.one h).append k
theorem jud_sub {rows : List (List Int)} {od : List Int} {w : Nat} {G L S : List Int} (st : Stl rows od w G L) (h : judB rows od w S = true) : ∀ s ∈ S, s ∈ L := by
  obtain ⟨F, r, _⟩ := st
  unfold judB barB at h
  simp only [Bool.and_eq_true] at h
  refine r.holds (fun s hs => ?_) h.2.2
  have := of_decide_eq_true (List.all_eq_true.mp h.1 s hs)
  exact List.mem_map.mpr ⟨s.toNat, List.mem_range.mpr (by omega), by omega⟩
theorem tab_extN {C : Addr} {H H' : Hp} {t : Addr} {w : Nat} {rows : List (List Int)} (h : Tab C H t w rows) (e : ExtN H H') : Tab C H' t w rows :=
  let ⟨dx, cr, rs, a, b, c, d⟩ := h
  ⟨dx, cr, rs, extN_i e a, extN_t e b, ⟨c.1, fun i v r h1 h2 => let ⟨q, z1, z2⟩ := c.2 i v r h1 h2; ⟨q, z1, extN_t e z2⟩⟩, d⟩
def sp__law_lists_right (K : PySem.W.Frag) (CT : Addr) (tabs : List (Addr × Str)) : Sp := fun vs H Q _ => ∃ (j t r p q : Addr) (w : Nat) (n : Int) (rows : List (List Int)) (od G L : List Int), vs = [.ref j, .ref t, .ref r, .ref p, .int (w : Nat), .ref q] ∧ Deck H j n ∧ n ≤ 900000 ∧ LoX K j H r p w rows od ∧ Tab CT H t w rows ∧ H q = some (.lst (L.map V.int)) ∧ q ≠ j ∧ Stl rows od w G L ∧ Tabs tabs H ∧
  ∀ H', ExjN j H H' → Tabs tabs H' → Deck H' j (n + 100) → Q (.bl true) H'
section
variable {w : World} {K : PySem.W.Frag} {mg : Str → Option Value} {base : Heap}
theorem ok__law_lists_right (T : Txt K mg) (hB : T.Bs base) : FnOk PR w K mg base CX0 9 T.a__law_lists_right T.d__law_lists_right ["_law_deck", "_law_table", "_law_rows_here", "_law_order_here", "_law_width", "_law_left"] (sp__law_lists_right K T.c_Table T.tabs) := by
  refine T.f__law_lists_right.ok sc__law_lists_right (fun vs H Q E h => ?_) (fun cdv A outer s H vs Q E hr h => ?_)
  · obtain ⟨j, t, r, p, q, w, n, rows, od, G, L, rfl, _⟩ := h
    rfl
  · obtain ⟨j, t, r, p, q, w, n, rows, od, G, L, rfl, hj, hn, o, ht, hq, nqj, st, hT, k⟩ := h
    refine ⟨_, (pss_cons (ps_set (i := 6) sc__law_lists_right.nd rfl (by first | exact Or.inl rfl | exact Or.inr rfl) (pe_callB (call_max2 rfl) (by rfl) T.z_max (by decide +kernel) (pa_cons pe_int (pa_cons (pe_op op_sub (pe_callB call_len_seq (by rfl) T.z_len PySem.boot_len (pa_cons (pv 3) pa_nil)) pe_int) pa_nil)))) (pss_cons (ps_set (i := 7) sc__law_lists_right.nd rfl (by first | exact Or.inl rfl | exact Or.inr rfl) (pe_lstG (pa_cons (pv 5) (pa_cons (pe_revG (pv 5)) (pa_cons (pe_slice sl_listG (pv 5) (po_some pe_int) po_none) (pa_cons (pe_op op_catG (pv 5) (pe_lstG (pa_cons (pv 6) pa_nil))) (pa_cons (pe_op op_catG (pv 5) (pe_lstG (pa_cons (pe_un un_neg pe_int) pa_nil))) (pa_cons (pe_op op_catG (pe_lstG (pa_cons (pe_un un_neg pe_int) pa_nil)) (pv 5)) (pa_cons (pe_lstG pa_nil) (pa_cons (pe_op op_catG (pv 5) (pe_slice sl_listG (pv 5) po_none (po_some pe_int))) pa_nil)))))))))) (pss_cons (ps_expr (pe_bm PySem.F.plainAttrs_list PySem.F.slot_list_append PySem.F.type_list_append mt_append (pv 7) (pa_cons (pe_lc (own := [("_law_turn", 10)]) (g := gName 10) (by rfl) sc__law_lists_right.nd (pi_range1 (by rfl) T.z_range (pa_cons (pe_call (ok__law_draw T) (hr.mono (by decide)) (by rfl) T.g__law_draw T.f__law_draw.kp (b__law_draw T) .nil pass0 (pa_cons (pv 0) (pa_cons pe_int pa_nil))) pa_nil)) (blkOk_by (own := [("_law_turn", 10)]) (N := ["_law_deck", "_law_table", "_law_rows_here", "_law_order_here", "_law_width", "_law_left", "_law_many", "_law_some", "_law_spots", "_law_due", "_law_turn", "_law_spot"]) (sc := (defScope s__law_lists_right)) (by decide +kernel)) (fun _ _ _ _ _ => (pg_name (i := 10) sc__law_lists_right.nd rfl (by first | exact Or.inl rfl | exact Or.inr rfl))) (fun _ _ _ _ _ => pts_nil) (fun _ _ _ _ _ => (pe_call (ok__law_draw T) (hr.mono (by decide)) (by rfl) T.g__law_draw T.f__law_draw.kp (b__law_draw T) .nil pass0 (pa_cons (pv 0) (pa_cons (pe_op op_add (pv 6) pe_int) pa_nil))))) pa_nil))) (pss_cons (ps_cut (ps_if (pt_cmpR op_lt (pv 6) pe_int (nomark _)) (pss_one (ps_set (i := 7) sc__law_lists_right.nd rfl (by first | exact Or.inl rfl | exact Or.inr rfl) (pe_op op_catG (pv 7) (pe_call (ok__law_parts T hB) (hr.mono (by decide)) (by rfl) T.g__law_parts T.f__law_parts.kp (b__law_parts T) .nil pass0 (pa_cons (pv 6) pa_nil))))) pss_nil)) (pss_cons (ps_for PassesOwn.never rfl (pi_list (pv 7)) (pg_name (i := 8) sc__law_lists_right.nd rfl (by first | exact Or.inl rfl | exact Or.inr rfl)) (pss_cons (ps_set (i := 9) sc__law_lists_right.nd rfl (by first | exact Or.inl rfl | exact Or.inr rfl) (pe_call (ok__law_bars T) (hr.mono (by decide)) (by rfl) T.g__law_bars T.f__law_bars.kp (b__law_bars T) .nil pass0 (pa_cons (pv 2) (pa_cons (pv 3) (pa_cons (pv 4) (pa_cons (pv 8) pa_nil)))))) (pss_cons (ps_if (pt_not (pt_val (pe_call (ok__law_says T) (hr.mono (by decide)) (by rfl) T.g__law_says T.f__law_says.kp (b__law_says T) .nil pass0 (pa_cons (pe_call (ok_judge_barring T) (hr.mono (by decide)) (by rfl) T.g_judge_barring T.f_judge_barring.kp (b_judge_barring T) .nil passL (pa_cons (pv 1) (pa_cons (pv 3) (pa_cons (pv 8) pa_nil)))) (pa_cons (pv 9) pa_nil))))) (pss_one (ps_ret pe_bl)) pss_nil) (pss_one (ps_if (PW.pt (pw_and (pt_val (pv 9)) (pw_and1 (pt_cmpR (op_neD hr.units) (pe_lc (own := [("_law_spot", 11)]) (g := gName 11) (by rfl) sc__law_lists_right.nd (pi_list (pv 8)) (blkOk_by (own := [("_law_spot", 11)]) (N := ["_law_deck", "_law_table", "_law_rows_here", "_law_order_here", "_law_width", "_law_left", "_law_many", "_law_some", "_law_spots", "_law_due", "_law_turn", "_law_spot"]) (sc := (defScope s__law_lists_right)) (by decide +kernel)) (fun _ _ _ _ _ => (pg_name (i := 11) sc__law_lists_right.nd rfl (by first | exact Or.inl rfl | exact Or.inr rfl))) (fun _ _ _ _ _ => (pts_one (pt_cmpR (opK (r := fun K => rIn K true) (K := K) (by rfl) op_notIn_seq) (pv 11) (pv 5) (by rfl)))) (fun _ _ _ _ _ => (pv 11))) (pe_lstG pa_nil) (nomark _))))) (pss_one (ps_ret pe_bl)) pss_nil))))) (pss_one (ps_ret (pe_call (ok__law_says T) (hr.mono (by decide)) (by rfl) T.g__law_says T.f__law_says.kp (b__law_says T) .nil pass0 (pa_cons (pe_callK0 (ok_judge_barring T) (hr.mono (by decide)) (by rfl) T.g_judge_barring T.f_judge_barring.kp (kb_judge_barring_0_spots_order_table T) passL (pk_cons (pv 5) (pk_cons (pv 3) (pk_cons (pv 1) pk_nil)))) (pa_cons (pe_call (ok__law_bars T) (hr.mono (by decide)) (by rfl) T.g__law_bars T.f__law_bars.kp (b__law_bars T) .nil pass0 (pa_cons (pv 2) (pa_cons (pv 3) (pa_cons (pv 4) (pa_cons (pv 5) pa_nil))))) pa_nil)))))))))), ?_⟩
    have ol := o.lo.ol
    have few := o.few
    have wd := o.wd
    obtain ⟨yj, hyj⟩ := id hj.at
    have Ll : L.length ≤ 100 := by
      obtain ⟨F, rn, _⟩ := id st
      have := ns_len_le (S := []) rn
      omega
    have big : ∀ {a : Nat}, a ≤ 1000 → a ≤ sizeLine := fun h => Nat.le_trans h (by decide)
    have lm : ∀ l : List Int, (l.map V.int).length = l.length := fun l => List.length_map _
    refine ⟨_, rfl, _, _, rfl, .inl (sqI o.sq.1), _, _, rfl, rfl, _, _, rfl, ?_⟩
    have em : (if ((od.map V.int).length : Int) - 1 > 0 then ((od.map V.int).length : Int) - 1 else 0) = ((od.length - 1 : Nat) : Int) := by
      rw [List.length_map]
      split <;> omega
    rw [em]
    obtain ⟨m, hm⟩ : ∃ m, m = od.length - 1 := ⟨_, rfl⟩
    rw [← hm]
    refine ⟨_, rfl, _, rfl, _, _, rfl, sqI hq, fun p1 H1 n1 e1 h1 => ?_⟩
    refine ⟨_, rfl, _, rfl, _, _, rfl, sqI (e1 _ _ hq), fun p2 H2 n2 e2 h2 => ?_⟩
    refine ⟨_, rfl, _, rfl, (by show 1 ≤ sizeLine; decide), fun p3 H3 n3 e3 h3 => ?_⟩
    have e03 := e1.trans (e2.trans e3)
    refine ⟨_, _, _, _, rfl, rfl, e03 _ _ hq, h3, big (by rw [lm]; show L.length + 1 ≤ 1000; omega), fun p4 H4 n4 e4 h4 => ?_⟩
    refine ⟨_, rfl, _, rfl, (by show 1 ≤ sizeLine; decide), fun p5 H5 n5 e5 h5 => ?_⟩
    have e05 := e03.trans (e4.trans e5)
    refine ⟨_, _, _, _, rfl, rfl, e05 _ _ hq, h5, big (by rw [lm]; show L.length + 1 ≤ 1000; omega), fun p6 H6 n6 e6 h6 => ?_⟩
    refine ⟨_, rfl, (by show 1 ≤ sizeLine; decide), fun p7 H7 n7 e7 h7 => ?_⟩
    have e07 := e05.trans (e6.trans e7)
    refine ⟨_, rfl, _, _, _, _, rfl, rfl, h7, e07 _ _ hq, big (by rw [lm]; show 1 + L.length ≤ 1000; omega), fun p8 H8 n8 e8 h8 => ?_⟩
    refine ⟨(by show 0 ≤ sizeLine; decide), fun p9 H9 n9 e9 h9 => ?_⟩
    have e09 := e07.trans (e8.trans e9)
    refine ⟨_, rfl, _, rfl, _, rfl, _, _, rfl, sqI (e09 _ _ hq), fun p10 H10 n10 e10 h10 => ?_⟩
    have e010 := e09.trans e10
    have e1' : cutV (L.map V.int) (some 1) none = (L.drop 1).map V.int := (cut_from _ 1).trans (List.map_drop).symm
    have e2' : cutV (L.map V.int) none (some 1) = (L.take 1).map V.int := (cut_to _ 1).trans (List.map_take).symm
    rw [e2'] at h10
    rw [e1'] at h2
    have lt1 : (L.take 1).length ≤ 1 := List.length_take_le _ _
    refine ⟨_, _, _, _, rfl, rfl, e010 _ _ hq, h10, big (by rw [lm, lm]; omega), fun p11 H11 n11 e11 h11 => ?_⟩
    refine ⟨(by show 8 ≤ sizeLine; decide), fun p12 H12 n12 e12 h12 => ?_⟩
    have x11 := e11
    have x10 := e10.trans x11
    have x9 := e9.trans x10
    have x8 := e8.trans x9
    have x7 := e7.trans x8
    have x6 := e6.trans x7
    have x5 := e5.trans x6
    have x4 := e4.trans x5
    have x3 := e3.trans x4
    have x2 := e2.trans x3
    have x1 := e1.trans x2
    have rx : ∀ {a : Addr} {S : List Int} {H0 H1 : Hp}, Ex H H0 → H0 a = none → Ex H1 H11 → H1 a = some (.lst (S.map V.int)) → RwX j H11 (.ref a) S ∧ V.ref a ≠ .ref p12 := fun {a S H0 H1} y1 y2 y3 y4 => ⟨⟨a, rfl, (hj.ex y1).ne y2, y3 _ _ y4⟩, fun z => by
      cases z
      rw [y3 _ _ y4] at n12
      cases n12⟩
    obtain ⟨SS, hSS⟩ : ∃ SS, SS = [L, L.reverse, L.drop 1, L ++ [(m : Int)], L ++ [-1], [-1] ++ L, [], L ++ L.take 1] := ⟨_, rfl⟩
    have SSl : ∀ S ∈ SS, S.length ≤ 1000 := fun S hS => by
      rw [hSS] at hS
      simp only [List.mem_cons, List.not_mem_nil, or_false] at hS
      rcases hS with z | z | z | z | z | z | z | z <;> rw [z] <;> (try simp only [List.length_reverse, List.length_drop, List.length_append, List.length_singleton, List.length_nil]) <;> omega
    have A11 : AllR (fun v S => RwX j H11 v S ∧ v ≠ .ref p12) [.ref q, .ref p1, .ref p2, .ref p4, .ref p6, .ref p8, .ref p9, .ref p11] SS := by
      rw [hSS]
      refine .cons' ⟨⟨q, rfl, nqj, x1 _ _ hq⟩, fun z => by cases z; rw [x1 _ _ hq] at n12; cases n12⟩ (.cons' (rx (Evl.Ex.refl _) n1 x2 (by rw [h1, List.map_reverse])) (.cons' (rx e1 n2 x3 h2) (.cons' (rx e03 n4 x5 (by rw [h4, List.map_append]; rfl)) (.cons' (rx e05 n6 x7 (by rw [h6, List.map_append]; rfl)) (.cons' (rx e07 n8 x9 (by rw [h8]; rfl)) (.cons' (rx (e07.trans e8) n9 x10 h9) (.cons' (rx e010 n11 (Evl.Ex.refl _) (by rw [h11, List.map_append])) .nil)))))))
    have e012 : Ex H H12 := x1.trans e12
    have A12 : AllR (fun v S => RwX j H12 v S ∧ v ≠ .ref p12) [.ref q, .ref p1, .ref p2, .ref p4, .ref p6, .ref p8, .ref p9, .ref p11] SS := A11.mono fun v S z => ⟨z.1.ex e12, z.2⟩
    have n12j : p12 ≠ j := (hj.ex x1).ne n12
    have j12 := hj.ex e012
    obtain ⟨us, hus⟩ : ∃ us : List V, us = [.ref q, .ref p1, .ref p2, .ref p4, .ref p6, .ref p8, .ref p9, .ref p11] := ⟨_, rfl⟩
    rw [← hus] at A12 h12
    have usl : us.length = 8 := by rw [hus]; rfl
    have n0p12 : H p12 = none := Ex_back x1 n12
    clear A11 rx x1 x2 x3 x4 x5 x6 x7 x8 x9 x10 x11 h1 h2 h3 h4 h5 h6 h7 h8 h9 h10 h11 hus
    refine st_eq (σ' := [some (.ref j), some (.ref t), some (.ref r), some (.ref p), some (.int (w : Nat)), some (.ref q), some (.int (m : Nat)), none, none, none, none, none]) (P := fun σ => gName 7 (.ref p12) σ H12 _) rfl ?_
    refine ⟨_, rfl, .inl ⟨rfl, _, sqI h12⟩, _, rfl, ?_⟩
    refine ⟨j, _, _, rfl, j12, by omega, by decide, by decide, fun d H13 d0 d1 e13 j13 => ?_⟩
    refine ⟨_, rfl, by omega, by omega, fun D14 n14 => lc_deckR (n := d.toNat) (B := 2 ^ 100) j13 n14 (Nat.lt_of_lt_of_le (show d.toNat < 100 by omega) (by decide)) (fun x => rfl) ?_ ?_⟩
    · intro i' H' e' j' hi' R kR
      refine ⟨_, rfl, _, rfl, _, _, rfl, rfl, j, _, _, rfl, j', by omega, by omega, Int.lt_of_le_of_lt (show (m : Int) + 1 ≤ 200 by omega) (by decide), fun d H'' d0 d1 e'' j'' => kR d H'' ?_ ?_ e'' j''⟩
      · exact Int.lt_of_lt_of_le (show -(2 ^ 100 : Int) < 0 by decide) d0
      · exact Int.lt_of_lt_of_le d1 (Int.le_trans (show (m : Int) + 1 ≤ 200 by omega) (by decide))
    intro ts H14 e14 j14 d14 l14 b14
    have x0_14 : Exj j H12 H14 := e13.trans e14
    have n14j : D14 ≠ j := j13.ne n14
    have h13 := e13 _ _ n12j h12
    have n14p : D14 ≠ p12 := (ne_of_none h13 n14).symm
    have h14 := x0_14 _ _ n12j h12
    refine ⟨_, _, _, rfl, rfl, h14, Nat.lt_of_lt_of_le (show us.length < 100 by omega) (by decide), ?_⟩
    have j15 := j14.upd (o := .lst (us ++ [.ref D14])) n12j
    have x15 : Exj j H (L2.upd H14 p12 (.lst (us ++ [.ref D14]))) := fun b o nb hb => by
      rw [upd_ne (ne_of_none hb n0p12)]
      exact x0_14 _ _ nb (e012 _ _ hb)
    have h15 : L2.upd H14 p12 (.lst (us ++ [.ref D14])) p12 = some (.lst (us ++ [.ref D14])) := upd_same
    have A15 : AllR (RwX j (L2.upd H14 p12 (.lst (us ++ [.ref D14])))) (us ++ [.ref D14]) (SS ++ [ts]) := by
      have q1 : L2.upd H14 p12 (.lst (us ++ [.ref D14])) D14 = some (.lst (ts.map V.int)) := by
        rw [upd_ne n14p]
        exact d14
      exact AllR.snoc (A12.mono fun v S ⟨⟨a, ea, na, ha⟩, nv⟩ => ⟨a, ea, na, by
        rw [upd_ne (fun z => nv (by rw [ea, z]))]
        exact x0_14 _ _ na ha⟩) ⟨D14, rfl, n14j, q1⟩
    have SSl15 : ∀ S ∈ SS ++ [ts], S.length ≤ 1000 := fun S hS => by
      rcases List.mem_append.mp hS with z | z
      · exact SSl S z
      · rw [List.mem_singleton.mp z]
        omega
    have ul15 : (us ++ [V.ref D14]).length = 9 := by rw [List.length_append, usl]; rfl
    generalize L2.upd H14 p12 (.lst (us ++ [.ref D14])) = H15 at j15 x15 h15 A15 ⊢
    generalize us ++ [V.ref D14] = us at h15 A15 ul15 ⊢
    generalize SS ++ [ts] = SS at A15 SSl15 ⊢
    have T15 := tabs_exj hT x15 hyj
    refine st_eq (σ' := [some (.ref j), some (.ref t), some (.ref r), some (.ref p), some (.int (w : Nat)), some (.ref q), some (.int (m : Nat)), some (.ref p12), none, none, none, none]) (P := fun σ => tSeq _ _ _ σ H15) rfl ?_
    refine ⟨fun σ' H' => ∃ (c : Addr) (us : List V) (SS : List (List Int)), σ' = [some (.ref j), some (.ref t), some (.ref r), some (.ref p), some (.int (w : Nat)), some (.ref q), some (.int (m : Nat)), some (.ref c), none, none, none, none] ∧ ExtN H15 H' ∧ Tabs T.tabs H' ∧ H' c = some (.lst us) ∧ AllR (RwX j H') us SS ∧ ∀ S ∈ SS, S.length ≤ 1000, ?_, ?_⟩
    · refine ⟨_, rfl, _, _, rfl, rfl, _, rfl, ifB (fun c => ?_) (fun c => ⟨p12, us, SS, rfl, ExtN.of (Evl.Ex.refl _), T15, h15, A15, SSl15⟩)⟩
      have m6 : (m : Int) < 6 := of_decide_eq_true c
      refine ⟨_, rfl, _, rfl, m, rfl, by omega, T15, fun a vs H16 n16 e16 t16 h16 a16 => ?_⟩
      have vl : vs.length = 2 ^ m := by rw [a16.1]; exact (List.mergeSort_perm _ _).length_eq.trans (parts_len m)
      have p8 : 2 ^ m ≤ 256 := Nat.le_trans (Nat.pow_le_pow_right (by decide) (show m ≤ 8 by omega)) (by decide)
      refine ⟨_, _, _, _, rfl, rfl, extN_l e16 h15, h16, big (by omega), fun p17 H17 n17 e17 h17 => ?_⟩
      refine ⟨p17, _, _, rfl, e16.trans (ExtN.of e17), t16.ext e17, h17, AllR.append (A15.mono fun v S ⟨a, ea, na, ha⟩ => ⟨a, ea, na, e17 _ _ (extN_l e16 ha)⟩) (a16.mono fun v S ⟨a, ea, na, ha⟩ => ⟨a, ea, ?_, e17 _ _ ha⟩), fun S hS => ?_⟩
      · obtain ⟨y15, hy15⟩ := id j15.at
        exact na.nel hy15
      · rcases List.mem_append.mp hS with z | z
        · exact SSl15 S z
        · have := parts_small m S (partsS_mem.mp z)
          omega
    rintro σ' H16 ⟨c, us6, SS6, rfl, e16, T16, h16, A16, L16⟩
    have o16 := (o.exj x15).extN e16
    have ht16 := tab_extN (ht.exj x15 hyj) e16
    have hq16 := extN_l e16 (x15 _ _ nqj hq)
    have j16 := deck_extN e16 j15
    have od16 : Od K T.c_Table H16 t p w rows od := ⟨ht16, o16.lo.sq, o.pm, few, wd⟩
    have kk : ∀ H', Ex H16 H' → Q (.bl true) H' := fun H' e' => k H' (((ExjN.of x15).trans (ExjN.ofN e16)).trans (ExjN.of (Exj.of e'))) (T16.ext e') ((j16.ex e').mono (by omega))
    clear A12 A15 SSl SSl15 h12 h13 h14 h15 d14 e14 x0_14 e012 e13 e16 T15 ul15 us SS hT
    refine ⟨_, rfl, c, rfl, ⟨_, sqI h16⟩, for_list (K := K) (a := c) (xs := us6) (fun i σ H' => ∃ v8 v9 : Option V, σ = [some (.ref j), some (.ref t), some (.ref r), some (.ref p), some (.int (w : Nat)), some (.ref q), some (.int (m : Nat)), some (.ref c), v8, v9, none, none] ∧ Ex H16 H') ⟨_, _, rfl, Evl.Ex.refl _⟩ (fun i σ H' _ ⟨_, _, _, e⟩ => sqI (e _ _ h16)) ?_ ?_⟩
    · rintro i v σ H17 hi ⟨v8, v9, rfl, e17⟩
      obtain ⟨S, hS, a, rfl, na, ha⟩ := A16.get hi
      have Sl := L16 S (List.mem_of_getElem? hS)
      refine ⟨_, rfl, _, rfl, _, rfl, _, rfl, r, p, a, w, rows, od, S, rfl, o16.lo.ex e17, sqI (e17 _ _ ha), Sl, fun H18 e18 => ?_⟩
      have e168 := e17.trans e18
      refine ⟨_, rfl, _, rfl, _, rfl, t, p, a, w, rows, od, S, rfl, od16.ex e168, sqI (e168 _ _ ha), Sl, fun H19 e19 => ?_⟩
      have e169 := e168.trans e19
      refine ⟨_, rfl, _, _, rfl, ?_⟩
      refine ⟨_, rfl, ifB (fun z => by simp at z) (fun _ => ?_)⟩
      refine ⟨_, rfl, _, rfl, ?_⟩
      refine ifB (fun z => ?_) (fun z => ⟨_, _, rfl, e169⟩)
      refine ⟨_, rfl, _, rfl, ⟨_, sqI (e169 _ _ ha)⟩, fun D20 n20 => lc_filtI (ns := S) (p := fun s => !decide (s ∈ L)) (sqI (e169 _ _ ha)) n20 Sl (fun x => rfl) ?_ ?_ ?_⟩
      · intro x H' hx e' R kR
        refine ⟨_, rfl, _, rfl, _, _, rfl, .inl (sqI ((e169.trans e') _ _ hq16)), rfl, flatI L, _, rfl, ?_⟩
        rw [inV_int]
        exact kR H' (Evl.Ex.refl _)
      · intro x H' N hN
        exact ⟨_, rfl, hN⟩
      intro H20 e20 d20
      refine ⟨(by show 0 ≤ sizeLine; decide), fun p21 H21 n21 e21 h21 => ?_⟩
      refine neI_ (sqI (e21 _ _ d20)) (ys := []) (sqI h21) ⟨_, rfl, ?_⟩
      have sub := jud_sub st z
      have fe : S.filter (fun s => !decide (s ∈ L)) = [] := List.filter_eq_nil_iff.mpr fun s hs => by simp [sub s hs]
      rw [fe]
      exact ⟨_, _, rfl, e169.trans (e20.trans e21)⟩
    rintro σ H17 ⟨v8, v9, rfl, e17⟩
    refine ⟨_, rfl, _, rfl, _, rfl, t, p, q, w, rows, od, L, rfl, od16.ex e17, sqI (e17 _ _ hq16), by omega, fun H18 e18 => ?_⟩
    have e168 := e17.trans e18
    refine ⟨_, rfl, _, rfl, _, rfl, _, rfl, r, p, q, w, rows, od, L, rfl, o16.lo.ex e168, sqI (e168 _ _ hq16), by omega, fun H19 e19 => ?_⟩
    refine ⟨_, _, rfl, ?_⟩
    rw [decide_eq_true rfl]
    exact kk H19 (e168.trans e19)
end
end K13
set_option Elab.async false
set_option pp.maxSteps 1200
set_option linter.all false
set_option maxRecDepth 100000
set_option maxHeartbeats 8000000
namespace K13
open PySem L2 My
open LamX (ExtN Tabs)
def optE {α : Type} (e : α → PyData) : Option α → PyData
  | none => .none
  | some x => e x
theorem goodOpt {α : Type} [DecidableEq α] {e : α → PyData} {n : Nat} (g : Good e n) (h : ∀ x, PyData.eqv .none (e x) = false ∧ PyData.eqv (e x) .none = false) : Good (optE e) n := ⟨fun x => by
    cases x with
    | none => rfl
    | some x => exact g.lay x, fun x => by
    cases x with
    | none => exact Nat.zero_le _
    | some x => exact g.dep x, fun x y => by
    cases x with
    | none =>
      cases y with
      | none => rfl
      | some y => exact ((h y).1).trans (by simp)
    | some x =>
      cases y with
      | none => exact ((h x).2).trans (by simp)
      | some y =>
        show PyData.eqv (e x) (e y) = _
        rw [g.eqv, Bool.eq_iff_iff]
        simp⟩
theorem goodOI : Good (optE (eL PyData.int)) 1 := goodOpt (goodL goodI) fun x => ⟨rfl, rfl⟩
/-- None, or a list -/
def OlV (H : Hp) (v : V) : Option (List Int) → Prop
  | none => v = .non
  | some S => LiR H v S
theorem OlV.ex {H H' : Hp} {v : V} {o : Option (List Int)} (h : OlV H v o) (e : Ex H H') : OlV H' v o := by
  cases o with
  | none => exact h
  | some cs => exact LiR.ex h e
theorem OlV.extN {H H' : Hp} {v : V} {o : Option (List Int)} (h : OlV H v o) (e : ExtN H H') : OlV H' v o := by
  cases o with
  | none => exact h
  | some cs => exact LiR.extN h e
theorem OlV.dp {K : PySem.W.Frag} {H : Hp} {v : V} {o : Option (List Int)} (h : OlV H v o) : Dp K H v (optE (eL PyData.int) o) := by
  cases o with
  | none =>
    have h : v = .non := h
    rw [h]
    exact .non
  | some cs =>
    obtain ⟨q, rfl, hq⟩ := h
    exact dpL (sqI hq)
theorem OptL.ol {H H' : Hp} {v : V} {o : Option (List Int)} (h : OptL H H' v o) : OlV H' v o := by
  cases o with
  | none => exact h
  | some cs => exact let ⟨q, a, _, b⟩ := h; ⟨q, a, b⟩
theorem OlV.isN {H : Hp} {v : V} {o : Option (List Int)} (h : OlV H v o) : decide (v = .non) = decide (o = none) := by
  cases o with
  | none => rw [show v = .non from h]; rfl
  | some cs =>
    obtain ⟨q, rfl, hq⟩ := h
    rfl
theorem jud_bar {rows : List (List Int)} {od : List Int} {w : Nat} {S : List Int} (h : ∀ s ∈ S, s ∈ ns (od.length - 1)) : judB rows od w S = barB rows od w S := by
  unfold judB
  rw [List.all_eq_true.mpr fun s hs => decide_eq_true (ns_mem (h s hs)), Bool.true_and]
theorem find_keep {α : Type} {p : α → Bool} {l : List α} {i : Nat} {x y : α} (h : (l.take i).find? p = some y) (hx : l[i]? = some x) : (l.take (i + 1)).find? p = some y := by
  rw [take_snoc hx, List.find?_append, h, Option.some_or]
theorem find_here {α : Type} {p : α → Bool} {l : List α} {i : Nat} {x : α} (h : (l.take i).find? p = none) (hx : l[i]? = some x) (hp : p x = true) : (l.take (i + 1)).find? p = some x := by
  rw [take_snoc hx, List.find?_append, h, Option.none_or, List.find?_cons, hp]
theorem LeV.isN {od L : List Int} {H H' : Hp} {v : V} (h : LeV od L H H' v) : decide (v = .non) = !L.any (dsc od) := by
  unfold LeV at h
  by_cases z : L.any (dsc od) = true
  · rw [if_pos z] at h
    obtain ⟨b, rfl, _⟩ := h
    rw [z]
    rfl
  · rw [if_neg z] at h
    rw [h, show L.any (dsc od) = false by simpa using z]
    rfl
def sp__law_least_right (K : PySem.W.Frag) (CT : Addr) (tabs : List (Addr × Str)) : Sp := fun vs H Q _ => ∃ (t r p : Addr) (w : Nat) (rows : List (List Int)) (od : List Int), vs = [.ref t, .ref r, .ref p, .int (w : Nat)] ∧ Lo K H r p w rows od ∧ Tab CT H t w rows ∧ od.length - 1 ≤ 8 ∧ Tabs tabs H ∧
  ∀ H', ExtN H H' → Tabs tabs H' → Q (.bl true) H'
section
variable {w : World} {K : PySem.W.Frag} {mg : Str → Option Value} {base : Heap}
theorem ok__law_least_right (T : Txt K mg) (hB : T.Bs base) : FnOk PR w K mg base CX0 9 T.a__law_least_right T.d__law_least_right ["_law_table", "_law_rows_here", "_law_order_here", "_law_width"] (sp__law_least_right K T.c_Table T.tabs) := by
  refine T.f__law_least_right.ok sc__law_least_right (fun vs H Q E h => ?_) (fun cdv A outer s H vs Q E hr h => ?_)
  · obtain ⟨t, r, p, w, rows, od, rfl, _⟩ := h
    rfl
  · obtain ⟨t, r, p, w, rows, od, rfl, o, ht, om, hT, k⟩ := h
    refine ⟨_, (pss_cons (ps_set (i := 4) sc__law_least_right.nd rfl (by first | exact Or.inl rfl | exact Or.inr rfl) pe_non) (pss_cons (ps_for PassesOwn.never rfl (pi_list (pe_call (ok__law_parts T hB) (hr.mono (by decide)) (by rfl) T.g__law_parts T.f__law_parts.kp (b__law_parts T) .nil pass0 (pa_cons (pe_callB (call_max2 rfl) (by rfl) T.z_max (by decide +kernel) (pa_cons pe_int (pa_cons (pe_op op_sub (pe_callB call_len_seq (by rfl) T.z_len PySem.boot_len (pa_cons (pv 2) pa_nil)) pe_int) pa_nil))) pa_nil))) (pg_name (i := 5) sc__law_least_right.nd rfl (by first | exact Or.inl rfl | exact Or.inr rfl)) (pss_one (ps_if (PW.pt (pw_and (pt_cmpR op_isN (pv 4) pe_non (nomark _)) (pw_and1 (pt_val (pe_call (ok__law_bars T) (hr.mono (by decide)) (by rfl) T.g__law_bars T.f__law_bars.kp (b__law_bars T) .nil pass0 (pa_cons (pv 1) (pa_cons (pv 2) (pa_cons (pv 3) (pa_cons (pv 5) pa_nil))))))))) (pss_one (ps_set (i := 4) sc__law_least_right.nd rfl (by first | exact Or.inl rfl | exact Or.inr rfl) (pv 5))) pss_nil))) (pss_cons (ps_if (PW.pt (pw_or (pt_cmpR (op_neD hr.units) (pe_call (ok_least_barring T hB) (hr.mono (by decide)) (by rfl) T.g_least_barring T.f_least_barring.kp (b_least_barring T) .nil passL (pa_cons (pv 0) (pa_cons (pv 2) pa_nil))) (pv 4) (nomark _)) (pw_or1 (pt_cmpR (op_neD hr.units) (pe_callK0 (ok_least_barring T hB) (hr.mono (by decide)) (by rfl) T.g_least_barring T.f_least_barring.kp (kb_least_barring_0_order_table T) passL (pk_cons (pv 2) (pk_cons (pv 0) pk_nil))) (pv 4) (nomark _))))) (pss_one (ps_ret pe_bl)) pss_nil) (pss_one (ps_ret (pe_cmpR op_eq (pe_cmpR op_isN (pv 4) pe_non (nomark _)) (pe_cmpR op_isN (pe_call (ok_barring T) (hr.mono (by decide)) (by rfl) T.g_barring T.f_barring.kp (b_barring T) .nil passL (pa_cons (pv 0) (pa_cons (pv 2) pa_nil))) pe_non (nomark _)) (nomark _))))))), ?_⟩
    have ol := o.ol
    have few := o.few
    have wd := o.wd
    have od0 : Od K T.c_Table H t p w rows od := ⟨ht, o.sq, o.pm, few, wd⟩
    refine ⟨_, rfl, _, _, rfl, .inl o.sq, _, _, rfl, rfl, _, _, rfl, ?_⟩
    have em : (if ((od.map V.int).length : Int) - 1 > 0 then ((od.map V.int).length : Int) - 1 else 0) = ((od.length - 1 : Nat) : Int) := by
      rw [List.length_map]
      split <;> omega
    rw [em]
    refine ⟨od.length - 1, rfl, om, hT, fun a us H1 n1 e1 t1 h1 a1 => ?_⟩
    have o1 := o.extN e1
    have od1 := od0.extN e1
    refine ⟨a, rfl, ⟨_, sqI h1⟩, for_list (K := K) (a := a) (xs := us) (fun i σ H' => ∃ (v4 : V) (v5 : Option V), σ = [some (.ref t), some (.ref r), some (.ref p), some (.int (w : Nat)), some v4, v5] ∧ Ex H1 H' ∧ OlV H1 v4 (((partsS (od.length - 1)).take i).find? (barB rows od w))) ⟨_, _, rfl, Evl.Ex.refl _, rfl⟩ (fun i σ H' _ ⟨_, _, _, e, _⟩ => sqI (e _ _ h1)) ?_ ?_⟩
    · rintro i v σ H5 hi ⟨v4, v5, rfl, e5, f5⟩
      obtain ⟨S, hS', q, rfl, nq, hq⟩ := a1.get hi
      have Sm := partsS_mem.mp (List.mem_of_getElem? hS')
      have Sl := parts_small _ S Sm
      have ss := parts_sub _ S Sm
      refine ⟨_, rfl, rfl, _, rfl, ?_⟩
      rw [f5.isN]
      refine ifB (fun z => ?_) (fun z => ?_)
      · have fn := of_decide_eq_true z
        refine ⟨_, rfl, _, rfl, _, rfl, _, rfl, r, p, q, w, rows, od, S, rfl, o1.ex e5, sqI (e5 _ _ hq), by omega, fun H6 e6 => ?_⟩
        refine ⟨_, rfl, ?_⟩
        rw [jud_bar ss]
        refine ifB (fun y => ?_) (fun y => ?_)
        · refine ⟨_, rfl, _, _, rfl, e5.trans e6, ?_⟩
          rw [find_here fn hS' y]
          exact ⟨q, rfl, hq⟩
        · refine ⟨_, _, rfl, e5.trans e6, ?_⟩
          rw [find_none fn hS' y]
          rw [fn] at f5
          exact f5
      · have fn := of_decide_eq_false z
        obtain ⟨y, hy⟩ := Option.ne_none_iff_exists'.mp fn
        refine ⟨_, _, rfl, e5, ?_⟩
        rw [find_keep hy hS']
        rw [hy] at f5
        exact f5
    · rintro σ H5 ⟨v4, v5, rfl, e5, f5⟩
      rw [a1.1, List.take_length] at f5
      have f5 : OlV H1 v4 (leastB rows od w) := f5
      have f6 := f5.ex e5
      have od5 := od1.ex e5
      refine ⟨_, rfl, _, rfl, t, p, w, rows, od, rfl, od5, om, t1.ext e5, fun v H6 e6 t6 ov => ?_⟩
      refine ⟨_, rfl, neE goodOI (by decide) ov.ol.dp (f6.extN e6).dp ⟨_, rfl, ifF same ?_⟩⟩
      have od6 := od5.extN e6
      refine ⟨_, rfl, _, rfl, t, p, w, rows, od, rfl, od6, om, t6, fun v2 H7 e7 t7 ov2 => ?_⟩
      have e57 := e6.trans e7
      refine ⟨_, rfl, neE goodOI (by decide) ov2.ol.dp (f6.extN e57).dp ⟨_, rfl, ifF same ?_⟩⟩
      have od7 := od6.extN e7
      refine ⟨_, rfl, rfl, _, rfl, _, rfl, t, p, w, rows, od, rfl, od7, fun v3 G L H8 e8 st lv => ?_⟩
      rw [f5.isN]
      refine ⟨rfl, ?_⟩
      rw [lv.isN]
      obtain ⟨F, rn, fin, _⟩ := id st
      have ln := least_none rn fin
      have be : decide (leastB rows od w = none) = !L.any (dsc od) := by
        rw [Bool.eq_iff_iff, decide_eq_true_eq, ln]
        cases L.any (dsc od) <;> simp
      refine ⟨rfl, ?_⟩
      rw [be, decBl, decide_eq_true rfl]
      exact k H8 ((e1.trans (ExtN.of e5)).trans (e57.trans (ExtN.of e8))) (t7.ext e8)
end
end K13
set_option Elab.async false
set_option pp.maxSteps 1200
set_option linter.all false
set_option maxRecDepth 100000
set_option maxHeartbeats 8000000
namespace K13
open PySem L2 My
open LamX (ExtN Tabs)
/-- None, or a new list -/
def OlN (H0 : Hp) (f : Addr) (H : Hp) (v : V) : Option (List Int) → Prop
  | none => v = .non
  | some S => ∃ q, v = .ref q ∧ NewN H0 q ∧ q ≠ f ∧ H q = some (.lst (S.map V.int))
theorem OlN.dp {K : PySem.W.Frag} {H0 H : Hp} {f : Addr} {v : V} {o : Option (List Int)} (h : OlN H0 f H v o) : Dp K H v (optE (eL PyData.int) o) := by
  cases o with
  | none =>
    have h : v = .non := h
    rw [h]
    exact .non
  | some cs =>
    obtain ⟨q, rfl, _, _, hq⟩ := h
    exact dpL (sqI hq)
theorem OlN.extN {H0 H H' : Hp} {f : Addr} {v : V} {o : Option (List Int)} (h : OlN H0 f H v o) (e : ExtN H H') : OlN H0 f H' v o := by
  cases o with
  | none => exact h
  | some cs => exact let ⟨q, a, b, c, d⟩ := h; ⟨q, a, b, c, extN_l e d⟩
theorem OlN.upd {H0 H : Hp} {f : Addr} {v : V} {o : Option (List Int)} {u : HO} (h : OlN H0 f H v o) : OlN H0 f (L2.upd H f u) v o := by
  cases o with
  | none => exact h
  | some cs => exact let ⟨q, a, b, c, d⟩ := h; ⟨q, a, b, c, by rw [upd_ne c]; exact d⟩
theorem OptL.oln {H0 H H' : Hp} {f : Addr} {us : List V} {v : V} {o : Option (List Int)} (h : OptL H H' v o) (e : ExtN H0 H) (hf : H f = some (.lst us)) : OlN H0 f H' v o := by
  cases o with
  | none => exact h
  | some cs => exact let ⟨q, a, n, b⟩ := h; ⟨q, a, n.back e, n.nel hf, b⟩
def dueL (od L : List Int) : Option (List Int) := if L.any (dsc od) = true then some L else none
def datL (rows : List (List Int)) (od : List Int) (w : Nat) (G L : List Int) : List (Option (List Int)) := [some G, dueL od L] ++ (if od.length < 7 then [leastB rows od w] else [])
theorem LeV.oln {H0 H H' H'' : Hp} {f : Addr} {v : V} {od L : List Int} (h : LeV od L H H' v) (e0 : Ex H0 H) (e : Ex H' H'') (hf : H' f = none) : OlN H0 f H'' v (dueL od L) := by
  unfold LeV at h
  unfold dueL
  by_cases z : L.any (dsc od) = true
  · rw [if_pos z] at h ⊢
    obtain ⟨b, rfl, n, h2⟩ := h
    exact ⟨b, rfl, .of (Ex_back e0 n), ne_of_none h2 hf, e _ _ h2⟩
  · rw [if_neg z] at h ⊢
    exact h
theorem least_in {rows : List (List Int)} {od : List Int} {w : Nat} {S : List Int} (h : leastB rows od w = some S) : S.length ≤ od.length - 1 ∧ ∀ s ∈ S, s ∈ ns (od.length - 1) := by
  unfold leastB at h
  have := partsS_mem.mp (List.mem_of_find?_eq_some h)
  exact ⟨parts_small _ S this, parts_sub _ S this⟩
theorem bd_ns {m : Nat} {S : List Int} (hm : m ≤ 100) (h : ∀ s ∈ S, s ∈ ns m) : Bd 10 S := fun s hs => by
  have := ns_mem (h s hs)
  show s.natAbs < 2 ^ 10
  omega
theorem dat_all {rows : List (List Int)} {od : List Int} {w : Nat} {G L : List Int} (st : Stl rows od w G L) (hw : w ≤ 100) (ho : od.length ≤ 100) : ∀ o ∈ datL rows od w G L, ∀ S, o = some S → S.length ≤ 100 ∧ Bd 10 S := by
  obtain ⟨F, rn, fin, pm, _⟩ := st
  have hG : G.length ≤ 100 ∧ Bd 10 G := ⟨by have := rn.len; have := pm.length_eq; omega, bd_ns hw fun s hs => rn.sub s (pm.mem_iff.mp hs)⟩
  have hL : L.length ≤ 100 ∧ Bd 10 L := ⟨by have := ns_len_le (S := []) rn; omega, bd_ns (by omega) (Run.inn rn)⟩
  have h3 : ∀ S, leastB rows od w = some S → S.length ≤ 100 ∧ Bd 10 S := fun S h => ⟨by have := (least_in h).1; omega, bd_ns (by omega) (least_in h).2⟩
  intro o ho S e
  rcases List.mem_append.mp ho with z | z
  · rcases List.mem_cons.mp z with z | z
    · rw [z] at e; cases e; exact hG
    · rw [List.mem_singleton.mp z] at e
      unfold dueL at e
      split at e
      · cases e; exact hL
      · cases e
  · split at z
    · rw [List.mem_singleton.mp z] at e
      exact h3 S e
    · cases z
theorem dat_len (rows : List (List Int)) (od : List Int) (w : Nat) (G L : List Int) : (datL rows od w G L).length ≤ 3 := by
  unfold datL
  rw [List.length_append]
  split
  · exact Nat.le_refl _
  · exact Nat.le_succ _
theorem dat_shw {rows : List (List Int)} {od : List Int} {w : Nat} {G L : List Int} (st : Stl rows od w G L) (hw : w ≤ 100) (ho : od.length ≤ 100) : Shw (eL (optE (eL PyData.int)) (datL rows od w G L)) 60 sizeLine := by
  refine (Shw.list (n := 1) (M := 192302) fun x hx => ?_).mono (by decide) ?_
  · obtain ⟨o, ho', rfl⟩ := List.mem_map.mp hx
    cases o with
    | none => exact Shw.none.mono (by decide) (by decide)
    | some S =>
      obtain ⟨l, b⟩ := dat_all st hw ho _ ho' S rfl
      exact (Shw.ints (by decide) b).mono (Nat.le_refl _) (by omega)
  · rw [List.length_map]
    have := dat_len rows od w G L
    exact Nat.le_trans (show 2 + (datL rows od w G L).length * (192302 + 2) ≤ 600000 by omega) (by decide)
def sp__law_new_right (K : PySem.W.Frag) (CT : Addr) (tabs : List (Addr × Str)) : Sp := fun vs H Q _ => ∃ (t p : Addr) (w : Nat) (rows : List (List Int)) (od : List Int), vs = [.ref t, .ref p] ∧ Od K CT H t p w rows od ∧ Tabs tabs H ∧
  ∀ H', ExtN H H' → Tabs tabs H' → Q (.bl true) H'
section
variable {w : World} {K : PySem.W.Frag} {mg : Str → Option Value} {base : Heap}
theorem ok__law_new_right (T : Txt K mg) (hB : T.Bs base) : FnOkG PR w K mg base CX0 9 T.a__law_new_right T.d__law_new_right ["_law_table", "_law_order_here"] (sp__law_new_right K T.c_Table T.tabs) := by
  refine T.f__law_new_right.okG sc__law_new_right (fun vs H Q E h => ?_) (fun cdv A outer s H vs Q E hr gd h => ?_)
  · obtain ⟨t, p, w, rows, od, rfl, _⟩ := h
    rfl
  · obtain ⟨t, p, w, rows, od, rfl, o, hT, k⟩ := h
    refine ⟨_, (pss_cons (ps_set (i := 2) sc__law_new_right.nd rfl (by first | exact Or.inl rfl | exact Or.inr rfl) (pe_lstG (pa_cons (pe_call (ok_usable T) (hr.mono (by decide)) (by rfl) T.g_usable T.f_usable.kp (b_usable T) .nil passL (pa_cons (pv 0) (pa_cons (pv 1) pa_nil))) (pa_cons (pe_call (ok_barring T) (hr.mono (by decide)) (by rfl) T.g_barring T.f_barring.kp (b_barring T) .nil passL (pa_cons (pv 0) (pa_cons (pv 1) pa_nil))) pa_nil)))) (pss_cons (ps_cut (ps_if (pt_cmpR op_lt (pe_callB call_len_seq (by rfl) T.z_len PySem.boot_len (pa_cons (pv 1) pa_nil)) pe_int (nomark _)) (pss_one (ps_expr (pe_bm PySem.F.plainAttrs_list PySem.F.slot_list_append PySem.F.type_list_append mt_append (pv 2) (pa_cons (pe_call (ok_least_barring T hB) (hr.mono (by decide)) (by rfl) T.g_least_barring T.f_least_barring.kp (b_least_barring T) .nil passL (pa_cons (pv 0) (pa_cons (pv 1) pa_nil))) pa_nil)))) pss_nil)) (pss_cons (ps_set (i := 3) sc__law_new_right.nd rfl (by first | exact Or.inl rfl | exact Or.inr rfl) (pe_callB (cr_reprA gd hr.units) (by rfl) T.z_repr (by decide +kernel) (pa_cons (pv 2) pa_nil))) (pss_cons (ps_for PassesOwn.never rfl (pi_list (pv 2)) (pg_name (i := 4) sc__law_new_right.nd rfl (by first | exact Or.inl rfl | exact Or.inr rfl)) (pss_one (ps_if (pt_cmpR op_notN (pv 4) pe_non (nomark _)) (pss_one (ps_expr (pe_bm PySem.F.plainAttrs_list PySem.F.slot_list_append PySem.F.type_list_append mt_append (pv 4) (pa_cons pe_int pa_nil)))) pss_nil))) (pss_cons (ps_set (i := 5) sc__law_new_right.nd rfl (by first | exact Or.inl rfl | exact Or.inr rfl) (pe_lstG (pa_cons (pe_call (ok_usable T) (hr.mono (by decide)) (by rfl) T.g_usable T.f_usable.kp (b_usable T) .nil passL (pa_cons (pv 0) (pa_cons (pv 1) pa_nil))) (pa_cons (pe_call (ok_barring T) (hr.mono (by decide)) (by rfl) T.g_barring T.f_barring.kp (b_barring T) .nil passL (pa_cons (pv 0) (pa_cons (pv 1) pa_nil))) pa_nil)))) (pss_cons (ps_cut (ps_if (pt_cmpR op_lt (pe_callB call_len_seq (by rfl) T.z_len PySem.boot_len (pa_cons (pv 1) pa_nil)) pe_int (nomark _)) (pss_one (ps_expr (pe_bm PySem.F.plainAttrs_list PySem.F.slot_list_append PySem.F.type_list_append mt_append (pv 5) (pa_cons (pe_call (ok_least_barring T hB) (hr.mono (by decide)) (by rfl) T.g_least_barring T.f_least_barring.kp (b_least_barring T) .nil passL (pa_cons (pv 0) (pa_cons (pv 1) pa_nil))) pa_nil)))) pss_nil)) (pss_one (ps_ret (pe_cmpR op_eq (pe_callB (cr_reprA gd hr.units) (by rfl) T.z_repr (by decide +kernel) (pa_cons (pv 5) pa_nil)) (pv 3) (nomark _)))))))))), ?_⟩
    have ol := o.ol
    have few := o.few
    have wd := o.wd
    -- x
    refine ⟨_, rfl, _, rfl, t, p, w, rows, od, rfl, o, fun ax Gx Lx x1 nax ex1 hx1 stx => ?_⟩
    refine ⟨_, rfl, _, rfl, t, p, w, rows, od, rfl, o.ex ex1, fun vbx Gx' Lx' x2 ex2 stx' lvx => ?_⟩
    obtain ⟨rfl, rfl⟩ := Stl.same stx' stx
    refine ⟨(by show 2 ≤ sizeLine; decide), fun fx x3 nx3 ex3 hx3 => ?_⟩
    have ex03 : Ex H x3 := ex1.trans (ex2.trans ex3)
    have Ax3 : AllR (OlN H fx x3) [.ref ax, vbx] [some Gx', dueL od Lx'] := .cons' ⟨ax, rfl, .of nax, ne_of_none (ex2 _ _ hx1) nx3, ex3 _ _ (ex2 _ _ hx1)⟩ (.cons' (lvx.oln ex1 ex3 nx3) .nil)
    have nfx : NewN H fx := .of (Ex_back (ex1.trans ex2) nx3)
    have ox3 := o.ex ex03
    have tx3 := hT.ext ex03
    refine st_eq (σ' := [some (.ref t), some (.ref p), none, none, none, none]) (P := fun σ => gName 2 (.ref fx) σ x3 _) rfl ?_
    refine ⟨fun σ' H' => ∃ us, σ' = [some (.ref t), some (.ref p), some (.ref fx), none, none, none] ∧ ExtN H H' ∧ Tabs T.tabs H' ∧ H' fx = some (.lst us) ∧ AllR (OlN H fx H') us (datL rows od w Gx' Lx'), ?_, ?_⟩
    · refine ⟨_, rfl, _, _, rfl, .inl ox3.sq, _, _, rfl, rfl, _, rfl, ifB (fun c => ?_) (fun c => ?_)⟩
      · have c : (((od.map V.int).length : Nat) : Int) < 7 := of_decide_eq_true c
        rw [List.length_map] at c
        refine ⟨_, rfl, .inl ⟨rfl, _, sqI hx3⟩, _, rfl, _, rfl, t, p, w, rows, od, rfl, ox3, by omega, tx3, fun v H4 e4 t4 ov => ?_⟩
        have h4 := extN_l e4 hx3
        refine ⟨_, _, _, rfl, rfl, h4, (by show 2 < sizeLine; decide), _, rfl, fun b o hb ho => ?_, tabs_upd t4 h4, upd_same, ?_⟩
        · have ho' := e4 _ _ (ex03 _ _ hb) ho
          rw [upd_ne (fun z => by
            rw [z] at hb
            obtain ⟨ps, q⟩ := nfx o hb
            exact ho ps q)]
          exact ho'
        · unfold datL
          rw [if_pos (by omega)]
          exact AllR.snoc (Ax3.mono fun v x z => (z.extN e4).upd) (OlN.upd (ov.oln (ExtN.of ex03) hx3))
      · have c : ¬ (((od.map V.int).length : Nat) : Int) < 7 := of_decide_eq_false c
        rw [List.length_map] at c
        refine ⟨_, rfl, ExtN.of ex03, tx3, hx3, ?_⟩
        unfold datL
        rw [if_neg (by omega), List.append_nil]
        exact Ax3
    clear hx3 Ax3 tx3 lvx hx1
    rintro σ' x4 ⟨usx, rfl, ex4, tx4, hx4, Ax4⟩
    have dpx : Dp K x4 (.ref fx) (eL (optE (eL PyData.int)) (datL rows od w Gx' Lx')) := .lst (sqI hx4) (Ax4.dp fun _ _ z => z.dp)
    refine ⟨_, rfl, _, eL (optE (eL PyData.int)) (datL rows od w Gx' Lx'), rfl, dpx, dat_shw stx' wd (by omega), ?_⟩
    have al := dat_all stx' wd (by omega)
    refine ⟨_, rfl, fx, rfl, ⟨_, sqI hx4⟩, for_list (K := K) (a := fx) (xs := usx) (fun i σ H' => ∃ v4 : Option V, σ = [some (.ref t), some (.ref p), some (.ref fx), some (.str (eL (optE (eL PyData.int)) (datL rows od w Gx' Lx')).shown), v4, none] ∧ ExtN H H' ∧ Tabs T.tabs H' ∧ H' fx = some (.lst usx) ∧ AllR (fun v (_ : Option (List Int)) => v = .non ∨ ∃ q, v = .ref q ∧ NewN H q ∧ q ≠ fx ∧ ∃ xs, H' q = some (.lst xs) ∧ xs.length ≤ 100 + i) usx (datL rows od w Gx' Lx')) ⟨_, rfl, ex4, tx4, hx4, ?_⟩ (fun i σ H' _ ⟨_, _, _, _, z, _⟩ => sqI z) ?_ ?_⟩
    · refine ⟨Ax4.1, fun i v o h1 h2 => ?_⟩
      have z := Ax4.2 i v o h1 h2
      cases o with
      | none => exact .inl z
      | some S =>
        obtain ⟨q, a, b, c, d⟩ := z
        have := (al _ (List.mem_of_getElem? h2) S rfl).1
        exact .inr ⟨q, a, b, c, _, d, by rw [List.length_map]; omega⟩
    · rintro i v σ H5 hi ⟨v4, rfl, e5, t5, f5, A5⟩
      obtain ⟨o', ho', z⟩ := A5.get hi
      have il : i < 100 := by
        have h1 := (List.getElem?_eq_some_iff.mp hi).1
        have h2 := A5.1
        have h3 := dat_len rows od w Gx' Lx'
        omega
      have nx : AllR (fun v (_ : Option (List Int)) => v = .non ∨ ∃ q, v = .ref q ∧ NewN H q ∧ q ≠ fx ∧ ∃ xs, H5 q = some (.lst xs) ∧ xs.length ≤ 100 + (i + 1)) usx (datL rows od w Gx' Lx') := A5.mono fun v x z => by
        rcases z with z | ⟨q, a, b, c, xs, d, l⟩
        · exact .inl z
        · exact .inr ⟨q, a, b, c, xs, d, by omega⟩
      refine ⟨_, rfl, rfl, _, rfl, ?_⟩
      rcases z with rfl | ⟨q, rfl, nq, qf, xs, hq, xl⟩
      · refine ifB (fun z => by simp at z) (fun _ => ⟨_, rfl, e5, t5, f5, nx⟩)
      · refine ifB (fun _ => ?_) (fun z => by simp at z)
        refine ⟨_, rfl, .inl ⟨rfl, _, sqI hq⟩, _, _, _, rfl, rfl, hq, Nat.lt_of_lt_of_le (show xs.length < 1000 by omega) (by decide), _, rfl, fun b o hb ho => ?_, tabs_upd t5 hq, (by rw [upd_ne qf.symm]; exact f5), nx.mono fun v x z => ?_⟩
        · rw [upd_ne (fun z => by
            rw [z] at hb
            obtain ⟨ps, q⟩ := nq o hb
            exact ho ps q)]
          exact e5 _ _ hb ho
        · rcases z with z | ⟨q2, a, b, c, ys, d, l⟩
          · exact .inl z
          · refine .inr ⟨q2, a, b, c, ?_⟩
            by_cases y : q2 = q
            · rw [y]
              exact ⟨_, upd_same, by rw [List.length_append]; show xs.length + 1 ≤ _; omega⟩
            · exact ⟨ys, by rw [upd_ne y]; exact d, l⟩
    rintro σ H6 ⟨v4, rfl, e6, t6, f6, A6⟩
    have o6 := o.extN e6
    clear Ax4 hx4 dpx A6 tx4 ex4 f6
    -- y
    refine ⟨_, rfl, _, rfl, t, p, w, rows, od, rfl, o6, fun ay Gy Ly y1 nay ey1 hy1 sty => ?_⟩
    refine ⟨_, rfl, _, rfl, t, p, w, rows, od, rfl, o6.ex ey1, fun vby Gy' Ly' y2 ey2 sty' lvy => ?_⟩
    obtain ⟨rfl, rfl⟩ := Stl.same sty' sty
    refine ⟨(by show 2 ≤ sizeLine; decide), fun fy y3 ny3 ey3 hy3 => ?_⟩
    have ey03 : Ex H6 y3 := ey1.trans (ey2.trans ey3)
    have Ay3 : AllR (OlN H6 fy y3) [.ref ay, vby] [some Gy', dueL od Ly'] := .cons' ⟨ay, rfl, .of nay, ne_of_none (ey2 _ _ hy1) ny3, ey3 _ _ (ey2 _ _ hy1)⟩ (.cons' (lvy.oln ey1 ey3 ny3) .nil)
    have nfy : NewN H6 fy := .of (Ex_back (ey1.trans ey2) ny3)
    have oy3 := o6.ex ey03
    have ty3 := t6.ext ey03
    refine st_eq (σ' := [some (.ref t), some (.ref p), some (.ref fx), some (.str (eL (optE (eL PyData.int)) (datL rows od w Gx' Lx')).shown), v4, none]) (P := fun σ => gName 5 (.ref fy) σ y3 _) rfl ?_
    refine ⟨fun σ' H' => ∃ us, σ' = [some (.ref t), some (.ref p), some (.ref fx), some (.str (eL (optE (eL PyData.int)) (datL rows od w Gx' Lx')).shown), v4, some (.ref fy)] ∧ ExtN H6 H' ∧ Tabs T.tabs H' ∧ H' fy = some (.lst us) ∧ AllR (OlN H6 fy H') us (datL rows od w Gy' Ly'), ?_, ?_⟩
    · refine ⟨_, rfl, _, _, rfl, .inl oy3.sq, _, _, rfl, rfl, _, rfl, ifB (fun c => ?_) (fun c => ?_)⟩
      · have c : (((od.map V.int).length : Nat) : Int) < 7 := of_decide_eq_true c
        rw [List.length_map] at c
        refine ⟨_, rfl, .inl ⟨rfl, _, sqI hy3⟩, _, rfl, _, rfl, t, p, w, rows, od, rfl, oy3, by omega, ty3, fun v H4 e4 t4 ov => ?_⟩
        have h4 := extN_l e4 hy3
        refine ⟨_, _, _, rfl, rfl, h4, (by show 2 < sizeLine; decide), _, rfl, fun b o hb ho => ?_, tabs_upd t4 h4, upd_same, ?_⟩
        · have ho' := e4 _ _ (ey03 _ _ hb) ho
          rw [upd_ne (fun z => by
            rw [z] at hb
            obtain ⟨ps, q⟩ := nfy o hb
            exact ho ps q)]
          exact ho'
        · unfold datL
          rw [if_pos (by omega)]
          exact AllR.snoc (Ay3.mono fun v x z => (z.extN e4).upd) (OlN.upd (ov.oln (ExtN.of ey03) hy3))
      · have c : ¬ (((od.map V.int).length : Nat) : Int) < 7 := of_decide_eq_false c
        rw [List.length_map] at c
        refine ⟨_, rfl, ExtN.of ey03, ty3, hy3, ?_⟩
        unfold datL
        rw [if_neg (by omega), List.append_nil]
        exact Ay3
    clear hy3 Ay3 ty3 lvy hy1
    rintro σ' y4 ⟨usy, rfl, ey4, ty4, hy4, Ay4⟩
    have dpy : Dp K y4 (.ref fy) (eL (optE (eL PyData.int)) (datL rows od w Gy' Ly')) := .lst (sqI hy4) (Ay4.dp fun _ _ z => z.dp)
    obtain ⟨rfl, rfl⟩ := Stl.same sty' stx'
    refine ⟨_, rfl, _, eL (optE (eL PyData.int)) (datL rows od w Gy' Ly'), rfl, dpy, dat_shw sty' wd (by omega), ?_⟩
    refine ⟨_, rfl, rfl, ?_⟩
    rw [decide_eq_true rfl]
    exact k y4 (e6.trans ey4) ty4
end
end K13
set_option Elab.async false
set_option pp.maxSteps 1200
set_option linter.all false
set_option maxRecDepth 100000
set_option maxHeartbeats 8000000
namespace K13
open PySem L2 My
open LamX (ExtN Tabs)
/-- a comprehension over a list, each element a call that perhaps writes code tables in -/
theorem lc_objN {α : Type} {K : PySem.W.Frag} {T : List (Addr × Str)} {a : Addr} {xs : List V} {ys : List α} {R : Hp → V → α → Prop} {g : TG} {te : TE} {vs : List Nat} {σ : L2.St} {H1 : Hp} {D : Addr} {Qd : Hp → Prop} (hx : SqL K H1 a xs) (hT : Tabs T H1) (hD : H1 D = none) (hl : ys.length = xs.length) (hz : xs.length ≤ sizeLine)
    (st : ∀ H' H'' v y, R H' v y → ExjN D H' H'' → R H'' v y)
    (he : ∀ (i : Nat) x y H' ds, ExtN H1 H' → Tabs T H' → H' D = some (.lst ds) → xs[i]? = some x → ys[i]? = some y → ∀ (N : VK) (Z : Hp → Prop), (∀ v H2, ExtN H' H2 → Tabs T H2 → R H2 v y → N v H2) → g x (wipe σ vs) H' fun σ2 H2 => wipe σ2 vs = wipe σ vs ∧ tYes σ2 H2 fun b H3 => if b = true then te σ2 H3 N else Z H3)
    (k : ∀ H' us, ExtN H1 H' → Tabs T H' → H' D = some (.lst us) → AllR (R H') us ys → Qd H') :
    ∃ W : Nat → Nat → Hp → Prop, (∃ m, W 0 m (upd H1 D (.lst []))) ∧ ∀ i m H, W i m H →
      ((Itl K a).stop i H ∧ Qd H) ∨ ((Itl K a).go i H ∧ ∃ Nx : Hp → Prop, (∀ H', Nx H' → ∃ m', m' < m ∧ W (i + 1) m' H') ∧ ∀ x H', (Itl K a).yld i H x H' → g x (wipe σ vs) H' fun σ2 H2 => wipe σ2 vs = wipe σ vs ∧ tYes σ2 H2 fun b H3 =>
        if b = true then te σ2 H3 fun y H4 => ∃ acc, H4 D = some (.lst acc) ∧ acc.length < sizeLine ∧ Nx (upd H4 D (.lst (acc ++ [y]))) else Nx H3) := by
  have mu : ∀ {H2 : Hp} {o : HO}, ExtN H1 H2 → ExtN H1 (upd H2 D o) := fun e b o hb ho => by
    rw [upd_ne (ne_of_none hb hD)]
    exact e b o hb ho
  refine lc_it (walk_list (K := K) (a := a) (xs := xs)) (fun i H' => ∃ us, ExtN H1 H' ∧ Tabs T H' ∧ H' D = some (.lst us) ∧ us.length = i ∧ AllR (R H') us (ys.take i)) ⟨[], mu (ExtN.of (Evl.Ex.refl _)), hT.ext (Evl.Ex.new hD), upd_same, rfl, AllR.nil⟩ (fun i H' _ ⟨_, e, _⟩ => sql_extN e hx) ?_ ?_
  · rintro i x H' H3 hi ⟨us, e', t', d', l', a'⟩ ⟨rfl, hv⟩
    have hy : ys[i]? = some (ys[i]'(by omega)) := List.getElem?_eq_getElem (by omega)
    refine he i x _ H3 us e' t' d' hv hy _ _ fun v H2 e2 t2 r2 => ⟨us, extN_l e2 d', by omega, us ++ [v], mu (e'.trans e2), tabs_upd t2 (extN_l e2 d'), upd_same, by simp [l'], ?_⟩
    rw [List.take_add_one, hy]
    have y1 : ExjN D H2 (upd H2 D (.lst (us ++ [v]))) := ExjN.of (Exj.refl _ _).upd
    exact AllR.snoc (a'.mono fun u y r => st _ _ u y (st _ _ u y r (ExjN.ofN e2)) y1) (st _ _ _ _ r2 y1)
  · rintro H' ⟨us, e', t', d', l', a'⟩
    rw [List.take_of_length_le (by omega)] at a'
    exact k H' us e' t' d' a'
/-- the rows, the deck elsewhere -/
def RwsX (j : Addr) (H : Hp) (r : Addr) (rows : List (List Int)) : Prop := ∃ us, H r = some (.lst us) ∧ r ≠ j ∧ AllR (RwX j H) us rows
theorem RwsX.exjN {j r : Addr} {H H' : Hp} {rows : List (List Int)} (h : RwsX j H r rows) (e : ExjN j H H') : RwsX j H' r rows :=
  let ⟨us, a, n, b⟩ := h
  ⟨us, e _ _ n a (fun ps z => nomatch z), n, b.mono fun v x ⟨q, z1, z2, z3⟩ => ⟨q, z1, z2, e _ _ z2 z3 (fun ps z => nomatch z)⟩⟩
theorem tab_exjN {C j : Addr} {H H' : Hp} {t : Addr} {w : Nat} {rows : List (List Int)} {ys : List V} (h : Tab C H t w rows) (e : ExjN j H H') (hj : H j = some (.lst ys)) : Tab C H' t w rows := by
  obtain ⟨dx, cr, rs, a, b, c, d⟩ := h
  have ne : ∀ {x o}, H x = some o → o ≠ .lst ys → x ≠ j := fun {x o} hx ho z => by
    rw [z, hj] at hx
    cases hx
    exact ho rfl
  refine ⟨dx, cr, rs, e _ _ (ne a (by intro z; cases z)) a (by intro ps z; cases z), e _ _ (ne b (by intro z; cases z)) b (by intro ps z; cases z), ⟨c.1, fun i v r h1 h2 => ?_⟩, d⟩
  obtain ⟨q, z1, z2⟩ := c.2 i v r h1 h2
  exact ⟨q, z1, e _ _ (ne z2 (by intro z; cases z)) z2 (by intro ps z; cases z)⟩
theorem LeV.ol {H H' : Hp} {v : V} {od L : List Int} (h : LeV od L H H' v) : OlV H' v (dueL od L) := by
  unfold LeV at h
  unfold dueL
  by_cases z : L.any (dsc od) = true
  · rw [if_pos z] at h ⊢
    obtain ⟨b, rfl, n, h2⟩ := h
    exact ⟨b, rfl, h2⟩
  · rw [if_neg z] at h ⊢
    exact h
theorem due_none (od L : List Int) : decide (dueL od L = none) = !L.any (dsc od) := by
  unfold dueL
  cases L.any (dsc od) <;> rfl
theorem isIn {α : Type} [DecidableEq α] {K : PySem.W.Frag} {H : Hp} {e : α → PyData} {n : Nat} (g : Good e n) (hn : n + 1 ≤ 64) {v u : V} {x : α} {xs : List α} {Q : VK} (h1 : Dp K H v (e x)) (h2 : Dp K H u (eL e xs)) {b : Bool} (hb : x ∈ xs ↔ b = true) (q : Q (.bl b) H) : My.rInD false K v u H Q :=
  ⟨_, _, h1, h2, g.shaped (by omega) x, (goodL g).shaped hn xs, by
    rw [inD_mem g, if_neg (by simp), show decide (x ∈ xs) = b by rw [Bool.eq_iff_iff, decide_eq_true_eq]; exact hb]
    exact q⟩
def sp__law_right (K : PySem.W.Frag) (tabs : List (Addr × Str)) : Sp := fun vs H Q _ => ∃ (j : Addr) (n : Int), vs = [.ref j] ∧ Deck H j n ∧ n ≤ 1000 ∧ Tabs tabs H ∧ ∀ H', ExjN j H H' → Tabs tabs H' → Q (.bl true) H'
section
variable {w : World} {K : PySem.W.Frag} {mg : Str → Option Value} {base : Heap}
theorem ok__law_right (T : Txt K mg) (hB : T.Bs base) : FnOkG PR w K mg base CX0 10 T.a__law_right T.d__law_right ["_law_deck"] (sp__law_right K T.tabs) := by
  refine T.f__law_right.okG sc__law_right (fun vs H Q E h => ?_) (fun cdv A outer s H vs Q E hr gd h => ?_)
  · obtain ⟨j, n, rfl, _⟩ := h
    rfl
  · obtain ⟨j, n, rfl, hj, hn, hT, k⟩ := h
    refine ⟨_, (pss_cons (ps_set (i := 1) sc__law_right.nd rfl (by first | exact Or.inl rfl | exact Or.inr rfl) (pe_op op_add pe_int (pe_call (ok__law_draw T) (hr.mono (by decide)) (by rfl) T.g__law_draw T.f__law_draw.kp (b__law_draw T) .nil pass0 (pa_cons (pv 0) (pa_cons pe_int pa_nil))))) (pss_cons (ps_set (i := 2) sc__law_right.nd rfl (by first | exact Or.inl rfl | exact Or.inr rfl) (pe_call (ok__law_rows T) (hr.mono (by decide)) (by rfl) T.g__law_rows T.f__law_rows.kp (b__law_rows T) .nil pass0 (pa_cons (pv 0) (pa_cons (pv 1) (pa_cons (pe_ix ix_list (pe_lstG (pa_cons pe_int (pa_cons pe_int (pa_cons pe_int (pa_cons pe_int pa_nil))))) (pe_call (ok__law_draw T) (hr.mono (by decide)) (by rfl) T.g__law_draw T.f__law_draw.kp (b__law_draw T) .nil pass0 (pa_cons (pv 0) (pa_cons pe_int pa_nil))) (fun _ _ => rfl)) pa_nil))))) (pss_cons (ps_set (i := 3) sc__law_right.nd rfl (by first | exact Or.inl rfl | exact Or.inr rfl) (pe_make T.mk_Table (ok_Table___init__ T) (hr.mono (by decide)) (by rfl) T.g_Table (b_Table___init__ T) .nil passL (pa_cons (pv 1) (pa_cons (pv 2) pa_nil)))) (pss_cons (ps_for PassesOwn.never rfl (pi_range1 (by rfl) T.z_range (pa_cons pe_int pa_nil)) (pg_name (i := 4) sc__law_right.nd rfl (by first | exact Or.inl rfl | exact Or.inr rfl)) (pss_cons (ps_set (i := 5) sc__law_right.nd rfl (by first | exact Or.inl rfl | exact Or.inr rfl) (pe_call (ok__law_drawn T hB) (hr.mono (by decide)) (by rfl) T.g__law_drawn T.f__law_drawn.kp (b__law_drawn T) .nil pass0 (pa_cons (pv 0) (pa_cons (pv 2) (pa_cons (pv 1) pa_nil))))) (pss_cons (ps_set (i := 6) sc__law_right.nd rfl (by first | exact Or.inl rfl | exact Or.inr rfl) (pe_callB (cr_reprA gd hr.units) (by rfl) T.z_repr (by decide +kernel) (pa_cons (pv 5) pa_nil))) (pss_cons (ps_asg (pe_call (ok__law_chosen T) (hr.mono (by decide)) (by rfl) T.g__law_chosen T.f__law_chosen.kp (b__law_chosen T) .nil pass0 (pa_cons (pv 0) (pa_cons (pv 2) (pa_cons (pv 5) (pa_cons (pv 1) pa_nil))))) (pg_tup rfl (pgs_cons (pg_name (i := 7) sc__law_right.nd rfl (by first | exact Or.inl rfl | exact Or.inr rfl)) (pgs_cons (pg_name (i := 8) sc__law_right.nd rfl (by first | exact Or.inl rfl | exact Or.inr rfl)) pgs_nil)))) (pss_cons (ps_if (PW.pt (pw_or (pt_cmpR (op_neD hr.units) (pe_call (ok_usable T) (hr.mono (by decide)) (by rfl) T.g_usable T.f_usable.kp (b_usable T) .nil passL (pa_cons (pv 3) (pa_cons (pv 5) pa_nil))) (pv 7) (nomark _)) (pw_or1 (pt_cmpR (op_neD hr.units) (pe_callK0 (ok_usable T) (hr.mono (by decide)) (by rfl) T.g_usable T.f_usable.kp (kb_usable_0_order_table T) passL (pk_cons (pv 5) (pk_cons (pv 3) pk_nil))) (pv 7) (nomark _))))) (pss_one (ps_ret pe_bl)) pss_nil) (pss_cons (ps_set (i := 9) sc__law_right.nd rfl (by first | exact Or.inl rfl | exact Or.inr rfl) pe_non) (pss_cons (ps_cut (ps_if (pt_cmpR (op_neD hr.units) (pe_lc (own := [("_law_spot", 11)]) (g := gName 11) (by rfl) sc__law_right.nd (pi_list (pv 8)) (blkOk_by (own := [("_law_spot", 11)]) (N := ["_law_deck", "_law_width", "_law_rows_here", "_law_table", "_law_turn", "_law_order_here", "_law_kept", "_law_found", "_law_left", "_law_due", "_law_told", "_law_spot", "_law_keys_here"]) (sc := (defScope s__law_right)) (by decide +kernel)) (fun _ _ _ _ _ => (pg_name (i := 11) sc__law_right.nd rfl (by first | exact Or.inl rfl | exact Or.inr rfl))) (fun _ _ _ _ _ => (pts_one (pt_cmpR op_gt (pe_ix (ixK (r := rIxL) (K := K) (by rfl) ix_list) (pv 5) (pv 11) (fun _ _ => rfl)) (pe_ix (ixK (r := rIxL) (K := K) (by rfl) ix_list) (pv 5) (pe_op op_add (pv 11) pe_int) (fun _ _ => rfl)) (nomark _)))) (fun _ _ _ _ _ => (pv 11))) (pe_lstG pa_nil) (nomark _)) (pss_one (ps_set (i := 9) sc__law_right.nd rfl (by first | exact Or.inl rfl | exact Or.inr rfl) (pv 8))) pss_nil)) (pss_cons (ps_set (i := 10) sc__law_right.nd rfl (by first | exact Or.inl rfl | exact Or.inr rfl) (pe_call (ok_barring T) (hr.mono (by decide)) (by rfl) T.g_barring T.f_barring.kp (b_barring T) .nil passL (pa_cons (pv 3) (pa_cons (pv 5) pa_nil)))) (pss_cons (ps_if (pt_cut (PW.pt (pw_or (pt_cmpR (op_neD hr.units) (pv 10) (pv 9) (nomark _)) (pw_or (pt_cmpR (op_neD hr.units) (pe_callK0 (ok_barring T) (hr.mono (by decide)) (by rfl) T.g_barring T.f_barring.kp (kb_barring_0_order_table T) passL (pk_cons (pv 5) (pk_cons (pv 3) pk_nil))) (pv 9) (nomark _)) (pw_or1 (PW.pt (pw_and (pt_cmpR op_notN (pv 9) pe_non (nomark _)) (pw_and1 (pt_cmpR op_isN (pv 10) pe_non (nomark _)))))))))) (pss_one (ps_ret pe_bl)) pss_nil) (pss_cons (ps_if (pt_not (pt_val (pe_call (ok__law_lists_right T hB) (hr.mono (by decide)) (by rfl) T.g__law_lists_right T.f__law_lists_right.kp (b__law_lists_right T) .nil pass0 (pa_cons (pv 0) (pa_cons (pv 3) (pa_cons (pv 2) (pa_cons (pv 5) (pa_cons (pv 1) (pa_cons (pv 8) pa_nil))))))))) (pss_one (ps_ret pe_bl)) pss_nil) (pss_cons (ps_if (pt_cut (PW.pt (pw_and (pt_cmpR op_lt (pe_callB call_len_seq (by rfl) T.z_len PySem.boot_len (pa_cons (pv 2) pa_nil)) pe_int (nomark _)) (pw_and1 (pt_not (pt_val (pe_call (ok__law_least_right T hB) (hr.mono (by decide)) (by rfl) T.g__law_least_right T.f__law_least_right.kp (b__law_least_right T) .nil pass0 (pa_cons (pv 3) (pa_cons (pv 2) (pa_cons (pv 5) (pa_cons (pv 1) pa_nil))))))))))) (pss_one (ps_ret pe_bl)) pss_nil) (pss_cons (ps_if (pt_cut (PW.pt (pw_and (pt_cmpR op_lt (pv 1) pe_int (nomark _)) (pw_and1 (pt_cmpR op_ne (pe_cmpR op_isN (pv 9) pe_non (nomark _)) (pe_cmpR (op_inD (u65 hr)) (pv 5) (pe_lc (own := [("_law_keys_here", 12)]) (g := gName 12) (by rfl) sc__law_right.nd (pi_list (pe_call (ok__law_every T) (hr.mono (by decide)) (by rfl) T.g__law_every T.f__law_every.kp (b__law_every T) .nil pass0 (pa_cons (pv 1) pa_nil))) (blkOk_by (own := [("_law_keys_here", 12)]) (N := ["_law_deck", "_law_width", "_law_rows_here", "_law_table", "_law_turn", "_law_order_here", "_law_kept", "_law_found", "_law_left", "_law_due", "_law_told", "_law_spot", "_law_keys_here"]) (sc := (defScope s__law_right)) (by decide +kernel)) (fun _ _ _ _ _ => (pg_name (i := 12) sc__law_right.nd rfl (by first | exact Or.inl rfl | exact Or.inr rfl))) (fun _ _ _ _ _ => pts_nil) (fun _ _ _ _ _ => (pe_call (ok__law_order T hB) (hr.mono (by decide)) (by rfl) T.g__law_order T.f__law_order.kp (b__law_order T) .nil pass0 (pa_cons (pv 2) (pa_cons (pv 12) pa_nil))))) (by rfl)) (nomark _)))))) (pss_one (ps_ret pe_bl)) pss_nil) (pss_one (ps_if (PW.pt (pw_or (pt_cmpR op_ne (pe_callB (cr_reprA gd hr.units) (by rfl) T.z_repr (by decide +kernel) (pa_cons (pv 5) pa_nil)) (pv 6) (nomark _)) (pw_or1 (pt_not (pt_val (pe_callG (ok__law_new_right T hB) (hr.mono (by decide)) gd (by rfl) T.g__law_new_right T.f__law_new_right.kp (b__law_new_right T) .nil pass0 (pa_cons (pv 3) (pa_cons (pv 5) pa_nil)))))))) (pss_one (ps_ret pe_bl)) pss_nil)))))))))))))) (pss_one (ps_ret pe_bl)))))), ?_⟩
    obtain ⟨yj, hyj⟩ := id hj.at
    refine ⟨_, rfl, j, _, n, rfl, hj, by omega, by decide, by decide, fun d0 H1 d0a d0b e1 j1 => ?_⟩
    refine ⟨_, _, rfl, rfl, ?_⟩
    obtain ⟨W, hW⟩ : ∃ W : Nat, 1 + d0 = (W : Int) := ⟨(1 + d0).toNat, by omega⟩
    show gName 1 (V.int (1 + d0)) _ H1 _
    rw [hW]
    have W1 : 1 ≤ W := by omega
    have W5 : W ≤ 5 := by omega
    refine ⟨_, rfl, _, rfl, (by show 4 ≤ sizeLine; decide), fun p3 H3 n3 e3 h3 => ?_⟩
    have np3 := j1.ne n3
    refine ⟨_, rfl, j, _, _, rfl, j1.ex e3, by omega, by decide, by decide, fun d4 H4 d4a d4b e4 j4 => ?_⟩
    obtain ⟨most, atm, hmost⟩ := at4 (a := 6) (b := 6) (c := 6) (e := 40) d4a d4b
    refine ⟨_, _, _, _, rfl, rfl, sqI (e4 _ _ np3 h3), atm, ?_⟩
    refine ⟨j, W, most, _, rfl, j4, by omega, W1, W5, by omega, by omega, fun r us rows H5 nr rj e5 j5 hr ar wb rl => ?_⟩
    have e05 : Exj j H H5 := e1.trans ((Exj.of e3).trans (e4.trans e5))
    have wd : ∀ x ∈ rows, x.length = W := fun x hx => (wb x hx).1
    refine ⟨_, rfl, _, rfl, ?_⟩
    refine mkTab (Q := fun v H => gName 3 v _ H _) (C := T.c_Table) (H := H5) (sp := sp_Table___init__ K T.c_Table) (vs := [.int (W : Nat), .ref r]) (w := W) (rows := rows) (fun x dx' G0 nx f0 hx kk => ?_) (fun t H6 nt e6 ht => ?_)
    · refine ⟨x, _, r, W, us, rows, rfl, hx, f0 _ _ hr, ?_, wd, W1, by omega, fun H' e' t' => ⟨rfl, kk H' e' t'⟩⟩
      exact CellsAt.ex ⟨ar.1, fun i v r h1 h2 => let ⟨q, z1, _, z2⟩ := ar.2 i v r h1 h2; ⟨q, z1, .inl z2⟩⟩ f0
    have j6 := (j5.ex e6).mono (show _ ≤ n + 402 by omega)
    have e06 : Exj j H H6 := e05.trans (Exj.of e6)
    have rx6 : RwsX j H6 r rows := ⟨us, e6 _ _ hr, rj, ar.mono fun v x z => z.ex e6⟩
    have T6 := tabs_exj hT e06 hyj
    have few : rows.length ≤ 40 := by omega
    clear wb hmost atm hr ar rl nr e5 e4 e3 e1 h3 j1 j4 j5
    refine st_eq (σ' := [some (.ref j), some (.int (W : Nat)), some (.ref r), none, none, none, none, none, none, none, none, none, none]) (P := fun σ => gName 3 (.ref t) σ H6 _) rfl ?_
    refine ⟨_, rfl, by omega, by omega, for_range (lo := 0) (n := ((2 : Int)).toNat) (fun i σ H' => ∃ v4 v5 v6 v7 v8 v9 v10 v11 v12 : Option V, σ = [some (.ref j), some (.int (W : Nat)), some (.ref r), some (.ref t), v4, v5, v6, v7, v8, v9, v10, v11, v12] ∧ ExjN j H H' ∧ Tabs T.tabs H' ∧ Deck H' j (n + 402 + 400 * i) ∧ RwsX j H' r rows ∧ Tab T.c_Table H' t W rows) ⟨_, _, _, _, _, _, _, _, _, rfl, ExjN.of e06, T6, j6.mono (by omega), rx6, ht⟩ ?_ ?_⟩
    · rintro i σ H7 hi ⟨v4, v5, v6, v7, v8, v9, v10, v11, v12, rfl, x7, t7, j7, rx7, ht7⟩
      have hi2 : i < 2 := hi
      refine ⟨_, rfl, _, rfl, _, rfl, j, r, W, _, rows, rfl, j7, by omega, W5, rx7, wd, by omega, t7, fun a od H8 na naj e8 t8 j8 h8 pm => ?_⟩
      have few' : rows.length ≤ 100 := by omega
      have o8 : LoX K j H8 r a W rows od := ⟨rx7.exjN e8, wd, ⟨h8, naj⟩, pm, few', by omega⟩
      obtain ⟨y7, hy7⟩ := id j7.at
      have ht8 := tab_exjN ht7 e8 hy7
      have x8 := x7.trans e8
      have ol : od.length = rows.length := o8.lo.ol
      have bd : Bd 10 od := bd_ns few' fun s hs => pm.mem_iff.mp hs
      have sh : Shw (eL PyData.int od) 60 sizeLine := (Shw.ints (by decide) bd).mono (by decide) (Nat.le_trans (show 2 + od.length * 1923 ≤ 600000 by omega) (by decide))
      refine ⟨_, rfl, _, eL PyData.int od, rfl, dpL (sqI h8), sh, ?_⟩
      refine ⟨_, rfl, _, rfl, _, rfl, _, rfl, j, r, a, W, _, rows, od, rfl, j8, by omega, o8, fun tt ga la G L H9 nga nla ngl e9 j9 htt hga hla stl => ?_⟩
      refine ⟨_, _, rfl, sqT htt, rfl, _, _, rfl, _, _, rfl, rfl, ?_⟩
      obtain ⟨y8, hy8⟩ := id j8.at
      have lj : la ≠ j := j8.ne nla
      have o9 := o8.exj e9
      have ht9 := ht8.exj e9 hy8
      have t9 := tabs_exj t8 e9 hy8
      have x9 := x8.trans (ExjN.of e9)
      have od9 : Od K T.c_Table H9 t a W rows od := ⟨ht9, sqI o9.sq.1, pm, few', by omega⟩
      have Ll : L.length ≤ 1000 := by
        obtain ⟨F, rn, _⟩ := id stl
        have := ns_len_le (S := []) rn
        omega
      obtain ⟨F, rn, fin, _⟩ := id stl
      clear e8 t8 o8 j8 ht8 htt e9 ht7 rx7 j7 t7 h8
      -- usable
      refine ⟨_, rfl, _, rfl, t, a, W, rows, od, rfl, od9, fun u1 G1 L1 H10 nu1 e10 hu1 st1 => ?_⟩
      obtain ⟨rfl, rfl⟩ := Stl.same st1 stl
      refine ⟨_, rfl, neI_ (sqI hu1) (sqI (e10 _ _ hga)) ⟨_, rfl, ifF same ?_⟩⟩
      refine ⟨_, rfl, _, rfl, t, a, W, rows, od, rfl, od9.ex e10, fun u2 G2 L2 H11 nu2 e11 hu2 st2 => ?_⟩
      obtain ⟨rfl, rfl⟩ := Stl.same st2 st1
      refine ⟨_, rfl, neI_ (sqI hu2) (sqI ((e10.trans e11) _ _ hga)) ⟨_, rfl, ifF same ?_⟩⟩
      have e911 := e10.trans e11
      have hla11 := e911 _ _ hla
      have od11 := od9.ex e911
      refine st_eq (σ' := [some (.ref j), some (.int (W : Nat)), some (.ref r), some (.ref t), some (.int (0 + (i : Int))), some (.ref a), some (.str (eL PyData.int od).shown), some (.ref ga), some (.ref la), v9, v10, v11, v12]) (P := fun σ => tNext _ σ H11) rfl ?_
      -- due
      refine ⟨fun σ' H' => ∃ dv : V, σ' = [some (.ref j), some (.int (W : Nat)), some (.ref r), some (.ref t), some (.int (0 + (i : Int))), some (.ref a), some (.str (eL PyData.int od).shown), some (.ref ga), some (.ref la), some dv, v10, v11, v12] ∧ Ex H9 H' ∧ OlV H' dv (dueL od L2), ?_, ?_⟩
      · refine ⟨_, rfl, la, rfl, ⟨_, sqI hla11⟩, fun D12 n12 => lc_filtI (ns := L2) (p := dsc od) (sqI hla11) n12 Ll (fun x => rfl) ?_ ?_ ?_⟩
        · intro s H' hs e' R kR
          have sm := Run.inn rn s hs
          obtain ⟨i, hi, rfl⟩ := List.mem_map.mp sm
          have hi := List.mem_range.mp hi
          have m1 : ((i : Nat) : Int) ∈ ns od.length := List.mem_map.mpr ⟨i, List.mem_range.mpr (by omega), rfl⟩
          have m2 : ((i : Nat) : Int) + 1 ∈ ns od.length := List.mem_map.mpr ⟨i + 1, List.mem_range.mpr (by omega), by omega⟩
          exact ⟨_, rfl, _, rfl, _, _, _, _, rfl, rfl, Evl.ex_l e' od11.sq, od_at m1, _, rfl, _, rfl, _, _, rfl, rfl, _, _, _, _, rfl, rfl, Evl.ex_l e' od11.sq, od_at m2, _, _, rfl, rfl, _, rfl, kR H' (Evl.Ex.refl _)⟩
        · intro x H' N hN
          exact ⟨_, rfl, hN⟩
        intro H12 e12 d12
        refine ⟨(by show 0 ≤ sizeLine; decide), fun p13 H13 n13 e13 h13 => ?_⟩
        refine neI_ (sqI (e13 _ _ d12)) (ys := []) (sqI h13) ⟨_, rfl, ?_⟩
        rw [filt_nil, Bool.not_not]
        have e913 := e911.trans (e12.trans e13)
        refine ifB (fun z => ?_) (fun z => ?_)
        · refine ⟨_, rfl, _, rfl, e913, ?_⟩
          unfold dueL
          rw [if_pos z]
          exact ⟨la, rfl, e913 _ _ hla⟩
        · refine ⟨_, rfl, e913, ?_⟩
          unfold dueL
          rw [if_neg (by rw [z]; simp)]
          rfl
      rintro σ' H13 ⟨dv, rfl, e913, hdv⟩
      have od13 := od9.ex e913
      -- told
      refine ⟨_, rfl, _, rfl, t, a, W, rows, od, rfl, od13, fun tv G3 L3 H14 e14 st3 lv => ?_⟩
      obtain ⟨rfl, rfl⟩ := Stl.same st3 st2
      have htv := lv.ol
      have hdv14 := hdv.ex e14
      refine ⟨fun b H' => b = false ∧ Ex H14 H', ?_, ?_⟩
      · refine ⟨_, rfl, _, rfl, neE goodOI (by decide) htv.dp hdv14.dp ⟨_, rfl, ifF same ?_⟩⟩
        refine ⟨_, rfl, _, rfl, t, a, W, rows, od, rfl, od13.ex e14, fun tv2 G4 L4 H15 e15 st4 lv2 => ?_⟩
        obtain ⟨rfl, rfl⟩ := Stl.same st4 st3
        refine ⟨_, rfl, neE goodOI (by decide) lv2.ol.dp (hdv14.ex e15).dp ⟨_, rfl, ifF same ?_⟩⟩
        refine ⟨_, rfl, rfl, _, rfl, ?_⟩
        rw [hdv14.isN]
        refine ifB (fun z => ?_) (fun z => ⟨rfl, e15⟩)
        refine ⟨_, rfl, rfl, _, rfl, ?_⟩
        rw [htv.isN]
        exact ⟨by simpa using z, e15⟩
      rintro b H15 ⟨rfl, e15⟩
      have e915 := e913.trans (e14.trans e15)
      have hdv15 := hdv14.ex e15
      have o15 := o9.exj (Exj.of e915)
      have ht15 := ht9.ex e915
      have t15 := t9.ext e915
      have x15 := x9.trans (ExjN.of (Exj.of e915))
      have j15 := j9.ex e915
      refine st_eq (σ' := [some (.ref j), some (.int (W : Nat)), some (.ref r), some (.ref t), some (.int (0 + (i : Int))), some (.ref a), some (.str (eL PyData.int od).shown), some (.ref ga), some (.ref la), some dv, some tv, v11, v12]) (P := fun σ => tNext _ σ H15) rfl ?_
      -- lists_right
      refine ⟨_, rfl, _, rfl, _, rfl, _, rfl, _, rfl, _, rfl, j, t, r, a, la, W, _, rows, od, _, _, rfl, j15, by omega, o15, ht15, e915 _ _ hla, lj, st3, t15, fun H16 e16 t16 j16 => ?_⟩
      refine ⟨_, rfl, ifF rfl ?_⟩
      obtain ⟨y15, hy15⟩ := id j15.at
      have x16 := x15.trans e16
      have rx16 : RwsX j H16 r rows := RwsX.exjN o15.rq e16
      have ht16 := tab_exjN ht15 e16 hy15
      have od16 : H16 a = some (.lst (od.map V.int)) := e16 _ _ naj o15.sq.1 (fun ps z => nomatch z)
      have hdn := hdv15.isN
      rw [due_none] at hdn
      have lo16 : LoX K j H16 r a W rows od := ⟨rx16, wd, ⟨od16, naj⟩, pm, few', by omega⟩
      -- least_right
      refine ⟨fun b H' => b = false ∧ ExtN H16 H' ∧ Tabs T.tabs H', ?_, ?_⟩
      · obtain ⟨us, hus, _, aus⟩ := id rx16
        have ul := aus.1
        refine ⟨_, rfl, _, _, rfl, .inl (sqI hus), _, _, rfl, rfl, _, rfl, ifB (fun c => ?_) (fun c => ⟨rfl, ExtN.of (Evl.Ex.refl _), t16⟩)⟩
        have c : ((us.length : Nat) : Int) < 7 := of_decide_eq_true c
        refine ⟨_, rfl, _, rfl, _, rfl, _, rfl, t, r, a, W, rows, od, rfl, lo16.lo, ht16, by omega, t16, fun H17 e17 t17 => ?_⟩
        exact ⟨_, rfl, rfl, e17, t17⟩
      rintro b H17 ⟨rfl, e17, t17⟩
      have lo17 := lo16.extN e17
      have ht17 := tab_extN ht16 e17
      have x17 := x16.trans (ExjN.ofN e17)
      have j17 := deck_extN e17 j16
      -- shown by some sorting
      refine ⟨fun b H' => b = false ∧ ExtN H17 H' ∧ Tabs T.tabs H', ?_, ?_⟩
      · refine ⟨_, rfl, _, _, rfl, rfl, _, rfl, ifB (fun c => ?_) (fun c => ⟨rfl, ExtN.of (Evl.Ex.refl _), t17⟩)⟩
        have c : ((W : Nat) : Int) < 3 := of_decide_eq_true c
        refine ⟨_, rfl, rfl, ?_⟩
        rw [hdn]
        refine ⟨_, rfl, _, rfl, W, rfl, W1, by omega, fun ea H18 es e18 he ae => ?_⟩
        have el : es.length = (everyL W).length := ae.1
        have ev : (everyL W).length ≤ 216 * (W + 1) := every_le (by omega) W (by omega)
        have t18 := t17.ext e18
        have x1718 : ExtN H17 H18 := ExtN.of e18
        refine ⟨ea, rfl, ⟨_, sqI he⟩, fun D19 n19 => lc_objN (K := K) (T := T.tabs) (a := ea) (ys := (everyL W).map (ordF rows)) (R := fun H v y => ∃ q, v = .ref q ∧ q ≠ D19 ∧ H q = some (.lst (y.map V.int))) (sqI he) t18 n19 (by simp [el]) (Nat.le_trans (show es.length ≤ 1000 by omega) (by decide)) (fun _ _ _ _ ⟨q, z1, z2, z3⟩ e => ⟨q, z1, z2, e _ _ z2 z3 (fun ps z => nomatch z)⟩) ?_ ?_⟩
        · intro i' x y H' ds e' t' hd' hx hy N Z kN
          obtain ⟨ks, hki, q, rfl, hk⟩ := ae.get hx
          rw [List.getElem?_map, hki] at hy
          cases hy
          have km := List.mem_of_getElem? hki
          obtain ⟨v, cb⟩ := every_vk km
          have ksl := every_size km
          refine ⟨rfl, ?_⟩
          show _
          refine ⟨_, rfl, _, rfl, r, q, W, rows, ks, rfl, ⟨(lo17.lo.rq.ex e18).extN e', wd, by omega, (LsK.extN hk e').q, ⟨v, cb⟩, by omega, t'⟩, fun p H2 n2 e2 t2 h2 => ?_⟩
          exact kN _ H2 e2 t2 ⟨p, rfl, n2.nel hd', h2⟩
        · intro H20 vs e20 t20 d20 a20
          have od20 := sql_extN (x1718.trans e20) lo17.lo.sq
          refine isIn (goodL goodI) (by decide) (x := od) (xs := (everyL W).map (ordF rows)) (dpL od20) (.lst (sqI d20) (a20.dp fun v y ⟨q, z, _, h⟩ => by rw [z]; exact dpL (sqI h))) (b := !L3.any (dsc od)) ((shown_iff rn fin pm).trans (by cases L3.any (dsc od) <;> simp)) ?_
          exact ⟨rfl, _, rfl, by rw [decBl, decide_eq_true rfl]; rfl, x1718.trans e20, t20⟩
      rintro b H18 ⟨rfl, e18, t18⟩
      have lo18 := lo17.extN e18
      have ht18 := tab_extN ht17 e18
      have x18 := x17.trans (ExjN.ofN e18)
      have j18 := deck_extN e18 j17
      -- kept
      refine ⟨_, rfl, _, eL PyData.int od, rfl, dpL lo18.lo.sq, sh, ?_⟩
      refine ⟨_, rfl, rfl, _, rfl, ifF same ?_⟩
      refine ⟨_, rfl, _, rfl, t, a, W, rows, od, rfl, ⟨ht18, lo18.lo.sq, pm, few', by omega⟩, t18, fun H19 e19 t19 => ?_⟩
      refine ⟨_, rfl, ifF rfl ?_⟩
      exact ⟨_, _, _, _, _, _, _, _, _, rfl, x18.trans (ExjN.ofN e19), t19, (deck_extN e19 j18).mono (by omega), RwsX.exjN lo18.rq (ExjN.ofN e19), tab_extN ht18 e19⟩
    · rintro σ H7 ⟨v4, v5, v6, v7, v8, v9, v10, v11, v12, rfl, x7, t7, _⟩
      exact k H7 x7 t7
end
end K13
set_option Elab.async false
set_option pp.maxSteps 1200
set_option linter.all false
set_option maxRecDepth 100000
set_option maxHeartbeats 4000000
namespace K13
open PySem L2 My
open LamX (ExtN Tabs)
def sp_law (K : PySem.W.Frag) (tabs : List (Addr × Str)) : Sp := fun vs H Q _ => ∃ (a : Addr) (ns : List Int), vs = [.ref a] ∧ SqL K H a (ns.map V.int) ∧ ns.length ≤ 63 ∧ Tabs tabs H ∧ ∀ H', Q (.bl true) H'
section
variable {w : World} {K : PySem.W.Frag} {mg : Str → Option Value} {base : Heap}
theorem ok_law (T : Txt K mg) (hB : T.Bs base) : FnOkG PR w K mg base CX0 11 T.a_law T.d_law ["_law_script"] (sp_law K T.tabs) := by
  refine T.f_law.okG sc_law (fun vs H Q E h => ?_) (fun cdv A outer s H vs Q E hr gd h => ?_)
  · obtain ⟨a, ns, rfl, _⟩ := h
    rfl
  · obtain ⟨sa, sc, rfl, hs, hsl, hT, k⟩ := h
    refine ⟨_, (pss_cons (ps_for PassesOwn.never rfl (pi_range1 (by rfl) T.z_range (pa_cons (pe_callB (call_max2 rfl) (by rfl) T.z_max (by decide +kernel) (pa_cons pe_int (pa_cons (pe_callB (call_min2 rfl) (by rfl) T.z_min (by decide +kernel) (pa_cons pe_int (pa_cons (pe_callB call_len_seq (by rfl) T.z_len PySem.boot_len (pa_cons (pv 0) pa_nil)) pa_nil))) pa_nil))) pa_nil)) (pg_name (i := 1) sc_law.nd rfl (by first | exact Or.inl rfl | exact Or.inr rfl)) (pss_one (ps_if (pt_not (pt_val (pe_callG (ok__law_right T hB) (hr.mono (by decide)) gd (by rfl) T.g__law_right T.f__law_right.kp (b__law_right T) .nil pass0 (pa_cons (pe_call (ok__law_open T) (hr.mono (by decide)) (by rfl) T.g__law_open T.f__law_open.kp (b__law_open T) .nil pass0 (pa_cons (pv 0) (pa_cons (pv 1) pa_nil))) pa_nil)))) (pss_one (ps_ret pe_bl)) pss_nil))) (pss_one (ps_ret pe_bl))), ?_⟩
    have em : ∃ c : Nat, (if (if ((sc.map V.int).length : Int) < 5 then ((sc.map V.int).length : Int) else 5) > 1 then (if ((sc.map V.int).length : Int) < 5 then ((sc.map V.int).length : Int) else 5) else 1) = (c : Int) ∧ c ≤ 5 := by
      rw [List.length_map]
      refine ⟨max 1 (min 5 sc.length), ?_, by omega⟩
      split <;> split <;> omega
    obtain ⟨c, ec, c5⟩ := em
    refine ⟨_, rfl, _, _, rfl, .inl hs, _, _, rfl, _, _, rfl, ?_⟩
    rw [ec]
    refine ⟨_, rfl, (by omega), (by omega), for_range (lo := 0) (n := ((c : Int)).toNat) (fun i σ H' => ∃ v1, σ = [some (.ref sa), v1] ∧ SqL K H' sa (sc.map V.int) ∧ Tabs T.tabs H') ⟨_, rfl, hs, hT⟩ ?_ ?_⟩
    · rintro i σ H0 hi ⟨v1, rfl, hs0, hT0⟩
      refine ⟨_, rfl, _, rfl, sa, sc, _, rfl, hs0, by omega, by omega, fun j H1 nj e1 j1 => ?_⟩
      refine ⟨j, _, rfl, j1, by omega, hT0.ext e1, fun H2 e2 t2 => ?_⟩
      refine ⟨_, rfl, ifF rfl ?_⟩
      have all : ExtN H0 H2 := fun b o hb ob => e2 b o (fun z => by rw [z, nj] at hb; cases hb) (e1 b o hb) ob
      exact ⟨_, rfl, sql_extN all hs0, t2⟩
    · rintro σ H' ⟨v1, rfl, _⟩
      exact k H'
end
end K13
set_option Elab.async false
set_option linter.all false
set_option maxRecDepth 100000
set_option maxHeartbeats 8000000
namespace K13
open PySem L2 My
theorem all_mk {K : PySem.W.Frag} {h : Heap} {mg : Str → Option Value} (X : K.In h) (G : h.Ns mainGlobals mg)
    {f0 : Addr} {od0 an0 : Option Addr} {sl0 : Array (Option Value)} {oc0 kV0 dc0 pm0 cd0 ct0 : Value}
    (a0 : PySem.W.nsIn K mainGlobals "need_column" = some (some (.ref f0))) (l0 : K.lookup f0 = some ⟨oc0, od0, .func (PySem.W.fnOf "need_column" "need_column" (defArgs s_need_column) (defBody s_need_column) (defScope s_need_column) .none kV0 dc0 pm0 an0 cd0 ct0), sl0⟩) (c0 : PySem.W.codeIn K cd0 "need_column" = true) (k0 : PySem.W.keepIn K (.ref f0) = true)
    {f1 : Addr} {od1 an1 : Option Addr} {sl1 : Array (Option Value)} {oc1 kV1 dc1 pm1 cd1 ct1 : Value}
    (a1 : PySem.W.nsIn K mainGlobals "need_order" = some (some (.ref f1))) (l1 : K.lookup f1 = some ⟨oc1, od1, .func (PySem.W.fnOf "need_order" "need_order" (defArgs s_need_order) (defBody s_need_order) (defScope s_need_order) .none kV1 dc1 pm1 an1 cd1 ct1), sl1⟩) (c1 : PySem.W.codeIn K cd1 "need_order" = true) (k1 : PySem.W.keepIn K (.ref f1) = true)
    {f2 : Addr} {od2 an2 : Option Addr} {sl2 : Array (Option Value)} {oc2 kV2 dc2 pm2 cd2 ct2 : Value}
    (a2 : PySem.W.nsIn K mainGlobals "usable" = some (some (.ref f2))) (l2 : K.lookup f2 = some ⟨oc2, od2, .func (PySem.W.fnOf "usable" "usable" (defArgs s_usable) (defBody s_usable) (defScope s_usable) .none kV2 dc2 pm2 an2 cd2 ct2), sl2⟩) (c2 : PySem.W.codeIn K cd2 "usable" = true) (k2 : PySem.W.keepIn K (.ref f2) = true)
    {f3 : Addr} {od3 an3 : Option Addr} {sl3 : Array (Option Value)} {oc3 kV3 dc3 pm3 cd3 ct3 : Value}
    (a3 : PySem.W.nsIn K mainGlobals "barring" = some (some (.ref f3))) (l3 : K.lookup f3 = some ⟨oc3, od3, .func (PySem.W.fnOf "barring" "barring" (defArgs s_barring) (defBody s_barring) (defScope s_barring) .none kV3 dc3 pm3 an3 cd3 ct3), sl3⟩) (c3 : PySem.W.codeIn K cd3 "barring" = true) (k3 : PySem.W.keepIn K (.ref f3) = true)
    {f4 : Addr} {od4 an4 : Option Addr} {sl4 : Array (Option Value)} {oc4 kV4 dc4 pm4 cd4 ct4 : Value}
    (a4 : PySem.W.nsIn K mainGlobals "judge_barring" = some (some (.ref f4))) (l4 : K.lookup f4 = some ⟨oc4, od4, .func (PySem.W.fnOf "judge_barring" "judge_barring" (defArgs s_judge_barring) (defBody s_judge_barring) (defScope s_judge_barring) .none kV4 dc4 pm4 an4 cd4 ct4), sl4⟩) (c4 : PySem.W.codeIn K cd4 "judge_barring" = true) (k4 : PySem.W.keepIn K (.ref f4) = true)
    {f5 : Addr} {od5 an5 : Option Addr} {sl5 : Array (Option Value)} {oc5 kV5 dc5 pm5 ct5 : Value} {cc5 cp5 : Addr} {qc5 : Value} {qd5 : Option Addr} {qv5 : Array Value} {qs5 : Array (Option Value)}
    (a5 : PySem.W.nsIn K mainGlobals "parts_of" = some (some (.ref f5))) (l5 : K.lookup f5 = some ⟨oc5, od5, .func (PySem.W.fnOf "parts_of" "parts_of" (defArgs s_parts_of) (defBody s_parts_of) (defScope s_parts_of) .none kV5 dc5 pm5 an5 (.ref cc5) ct5), sl5⟩) (c5 : PySem.W.codeIn K (.ref cc5) "parts_of" = true) (k5 : PySem.W.keepIn K (.ref f5) = true)
    (q5 : K.lookup cc5 = some ⟨qc5, qd5, .fields qv5, qs5⟩) (v5 : (qv5[11]? : Option Value) = some (.ref cp5)) (tb5 : h.get? cp5 = some (PySem.W.tabObj #[])) (nk5 : K.lookup cp5 = none) (hd5 : PySem.W.codeHdIn K cc5 cp5 = true)
    {f6 : Addr} {od6 an6 : Option Addr} {sl6 : Array (Option Value)} {oc6 kV6 dc6 pm6 cd6 ct6 : Value}
    (a6 : PySem.W.nsIn K mainGlobals "least_barring" = some (some (.ref f6))) (l6 : K.lookup f6 = some ⟨oc6, od6, .func (PySem.W.fnOf "least_barring" "least_barring" (defArgs s_least_barring) (defBody s_least_barring) (defScope s_least_barring) .none kV6 dc6 pm6 an6 cd6 ct6), sl6⟩) (c6 : PySem.W.codeIn K cd6 "least_barring" = true) (k6 : PySem.W.keepIn K (.ref f6) = true)
    {f7 : Addr} {od7 an7 : Option Addr} {sl7 : Array (Option Value)} {oc7 kV7 dc7 pm7 cd7 ct7 : Value}
    (a7 : PySem.W.nsIn K mainGlobals "_law_open" = some (some (.ref f7))) (l7 : K.lookup f7 = some ⟨oc7, od7, .func (PySem.W.fnOf "_law_open" "_law_open" (defArgs s__law_open) (defBody s__law_open) (defScope s__law_open) .none kV7 dc7 pm7 an7 cd7 ct7), sl7⟩) (c7 : PySem.W.codeIn K cd7 "_law_open" = true) (k7 : PySem.W.keepIn K (.ref f7) = true)
    {f8 : Addr} {od8 an8 : Option Addr} {sl8 : Array (Option Value)} {oc8 kV8 dc8 pm8 cd8 ct8 : Value}
    (a8 : PySem.W.nsIn K mainGlobals "_law_draw" = some (some (.ref f8))) (l8 : K.lookup f8 = some ⟨oc8, od8, .func (PySem.W.fnOf "_law_draw" "_law_draw" (defArgs s__law_draw) (defBody s__law_draw) (defScope s__law_draw) .none kV8 dc8 pm8 an8 cd8 ct8), sl8⟩) (c8 : PySem.W.codeIn K cd8 "_law_draw" = true) (k8 : PySem.W.keepIn K (.ref f8) = true)
    {f9 : Addr} {od9 an9 : Option Addr} {sl9 : Array (Option Value)} {oc9 kV9 dc9 pm9 cd9 ct9 : Value}
    (a9 : PySem.W.nsIn K mainGlobals "_law_rows" = some (some (.ref f9))) (l9 : K.lookup f9 = some ⟨oc9, od9, .func (PySem.W.fnOf "_law_rows" "_law_rows" (defArgs s__law_rows) (defBody s__law_rows) (defScope s__law_rows) .none kV9 dc9 pm9 an9 cd9 ct9), sl9⟩) (c9 : PySem.W.codeIn K cd9 "_law_rows" = true) (k9 : PySem.W.keepIn K (.ref f9) = true)
    {f10 : Addr} {od10 an10 : Option Addr} {sl10 : Array (Option Value)} {oc10 kV10 dc10 pm10 cd10 ct10 : Value}
    (a10 : PySem.W.nsIn K mainGlobals "_law_keys" = some (some (.ref f10))) (l10 : K.lookup f10 = some ⟨oc10, od10, .func (PySem.W.fnOf "_law_keys" "_law_keys" (defArgs s__law_keys) (defBody s__law_keys) (defScope s__law_keys) .none kV10 dc10 pm10 an10 cd10 ct10), sl10⟩) (c10 : PySem.W.codeIn K cd10 "_law_keys" = true) (k10 : PySem.W.keepIn K (.ref f10) = true)
    {f11 : Addr} {od11 an11 : Option Addr} {sl11 : Array (Option Value)} {oc11 kV11 dc11 pm11 cd11 ct11 : Value}
    (a11 : PySem.W.nsIn K mainGlobals "_law_every" = some (some (.ref f11))) (l11 : K.lookup f11 = some ⟨oc11, od11, .func (PySem.W.fnOf "_law_every" "_law_every" (defArgs s__law_every) (defBody s__law_every) (defScope s__law_every) .none kV11 dc11 pm11 an11 cd11 ct11), sl11⟩) (c11 : PySem.W.codeIn K cd11 "_law_every" = true) (k11 : PySem.W.keepIn K (.ref f11) = true)
    {f12 : Addr} {od12 an12 : Option Addr} {sl12 : Array (Option Value)} {oc12 kV12 dc12 pm12 ct12 : Value} {cc12 cp12 : Addr} {qc12 : Value} {qd12 : Option Addr} {qv12 : Array Value} {qs12 : Array (Option Value)}
    (a12 : PySem.W.nsIn K mainGlobals "_law_order" = some (some (.ref f12))) (l12 : K.lookup f12 = some ⟨oc12, od12, .func (PySem.W.fnOf "_law_order" "_law_order" (defArgs s__law_order) (defBody s__law_order) (defScope s__law_order) .none kV12 dc12 pm12 an12 (.ref cc12) ct12), sl12⟩) (c12 : PySem.W.codeIn K (.ref cc12) "_law_order" = true) (k12 : PySem.W.keepIn K (.ref f12) = true)
    (q12 : K.lookup cc12 = some ⟨qc12, qd12, .fields qv12, qs12⟩) (v12 : (qv12[11]? : Option Value) = some (.ref cp12)) (tb12 : h.get? cp12 = some (PySem.W.tabObj #[])) (nk12 : K.lookup cp12 = none) (hd12 : PySem.W.codeHdIn K cc12 cp12 = true)
    {f13 : Addr} {od13 an13 : Option Addr} {sl13 : Array (Option Value)} {oc13 kV13 dc13 pm13 cd13 ct13 : Value}
    (a13 : PySem.W.nsIn K mainGlobals "_law_says" = some (some (.ref f13))) (l13 : K.lookup f13 = some ⟨oc13, od13, .func (PySem.W.fnOf "_law_says" "_law_says" (defArgs s__law_says) (defBody s__law_says) (defScope s__law_says) .none kV13 dc13 pm13 an13 cd13 ct13), sl13⟩) (c13 : PySem.W.codeIn K cd13 "_law_says" = true) (k13 : PySem.W.keepIn K (.ref f13) = true)
    {f14 : Addr} {od14 an14 : Option Addr} {sl14 : Array (Option Value)} {oc14 kV14 dc14 pm14 cd14 ct14 : Value}
    (a14 : PySem.W.nsIn K mainGlobals "_law_step" = some (some (.ref f14))) (l14 : K.lookup f14 = some ⟨oc14, od14, .func (PySem.W.fnOf "_law_step" "_law_step" (defArgs s__law_step) (defBody s__law_step) (defScope s__law_step) .none kV14 dc14 pm14 an14 cd14 ct14), sl14⟩) (c14 : PySem.W.codeIn K cd14 "_law_step" = true) (k14 : PySem.W.keepIn K (.ref f14) = true)
    {f15 : Addr} {od15 an15 : Option Addr} {sl15 : Array (Option Value)} {oc15 kV15 dc15 pm15 cd15 ct15 : Value}
    (a15 : PySem.W.nsIn K mainGlobals "_law_mixed" = some (some (.ref f15))) (l15 : K.lookup f15 = some ⟨oc15, od15, .func (PySem.W.fnOf "_law_mixed" "_law_mixed" (defArgs s__law_mixed) (defBody s__law_mixed) (defScope s__law_mixed) .none kV15 dc15 pm15 an15 cd15 ct15), sl15⟩) (c15 : PySem.W.codeIn K cd15 "_law_mixed" = true) (k15 : PySem.W.keepIn K (.ref f15) = true)
    {f16 : Addr} {od16 an16 : Option Addr} {sl16 : Array (Option Value)} {oc16 kV16 dc16 pm16 cd16 ct16 : Value}
    (a16 : PySem.W.nsIn K mainGlobals "_law_bars" = some (some (.ref f16))) (l16 : K.lookup f16 = some ⟨oc16, od16, .func (PySem.W.fnOf "_law_bars" "_law_bars" (defArgs s__law_bars) (defBody s__law_bars) (defScope s__law_bars) .none kV16 dc16 pm16 an16 cd16 ct16), sl16⟩) (c16 : PySem.W.codeIn K cd16 "_law_bars" = true) (k16 : PySem.W.keepIn K (.ref f16) = true)
    {f17 : Addr} {od17 an17 : Option Addr} {sl17 : Array (Option Value)} {oc17 kV17 dc17 pm17 cd17 ct17 : Value}
    (a17 : PySem.W.nsIn K mainGlobals "_law_chosen" = some (some (.ref f17))) (l17 : K.lookup f17 = some ⟨oc17, od17, .func (PySem.W.fnOf "_law_chosen" "_law_chosen" (defArgs s__law_chosen) (defBody s__law_chosen) (defScope s__law_chosen) .none kV17 dc17 pm17 an17 cd17 ct17), sl17⟩) (c17 : PySem.W.codeIn K cd17 "_law_chosen" = true) (k17 : PySem.W.keepIn K (.ref f17) = true)
    {f18 : Addr} {od18 an18 : Option Addr} {sl18 : Array (Option Value)} {oc18 kV18 dc18 pm18 ct18 : Value} {cc18 cp18 : Addr} {qc18 : Value} {qd18 : Option Addr} {qv18 : Array Value} {qs18 : Array (Option Value)}
    (a18 : PySem.W.nsIn K mainGlobals "_law_parts" = some (some (.ref f18))) (l18 : K.lookup f18 = some ⟨oc18, od18, .func (PySem.W.fnOf "_law_parts" "_law_parts" (defArgs s__law_parts) (defBody s__law_parts) (defScope s__law_parts) .none kV18 dc18 pm18 an18 (.ref cc18) ct18), sl18⟩) (c18 : PySem.W.codeIn K (.ref cc18) "_law_parts" = true) (k18 : PySem.W.keepIn K (.ref f18) = true)
    (q18 : K.lookup cc18 = some ⟨qc18, qd18, .fields qv18, qs18⟩) (v18 : (qv18[11]? : Option Value) = some (.ref cp18)) (tb18 : h.get? cp18 = some (PySem.W.tabObj #[])) (nk18 : K.lookup cp18 = none) (hd18 : PySem.W.codeHdIn K cc18 cp18 = true)
    {f19 : Addr} {od19 an19 : Option Addr} {sl19 : Array (Option Value)} {oc19 kV19 dc19 pm19 cd19 ct19 : Value}
    (a19 : PySem.W.nsIn K mainGlobals "_law_drawn" = some (some (.ref f19))) (l19 : K.lookup f19 = some ⟨oc19, od19, .func (PySem.W.fnOf "_law_drawn" "_law_drawn" (defArgs s__law_drawn) (defBody s__law_drawn) (defScope s__law_drawn) .none kV19 dc19 pm19 an19 cd19 ct19), sl19⟩) (c19 : PySem.W.codeIn K cd19 "_law_drawn" = true) (k19 : PySem.W.keepIn K (.ref f19) = true)
    {f20 : Addr} {od20 an20 : Option Addr} {sl20 : Array (Option Value)} {oc20 kV20 dc20 pm20 cd20 ct20 : Value}
    (a20 : PySem.W.nsIn K mainGlobals "_law_lists_right" = some (some (.ref f20))) (l20 : K.lookup f20 = some ⟨oc20, od20, .func (PySem.W.fnOf "_law_lists_right" "_law_lists_right" (defArgs s__law_lists_right) (defBody s__law_lists_right) (defScope s__law_lists_right) .none kV20 dc20 pm20 an20 cd20 ct20), sl20⟩) (c20 : PySem.W.codeIn K cd20 "_law_lists_right" = true) (k20 : PySem.W.keepIn K (.ref f20) = true)
    {f21 : Addr} {od21 an21 : Option Addr} {sl21 : Array (Option Value)} {oc21 kV21 dc21 pm21 cd21 ct21 : Value}
    (a21 : PySem.W.nsIn K mainGlobals "_law_least_right" = some (some (.ref f21))) (l21 : K.lookup f21 = some ⟨oc21, od21, .func (PySem.W.fnOf "_law_least_right" "_law_least_right" (defArgs s__law_least_right) (defBody s__law_least_right) (defScope s__law_least_right) .none kV21 dc21 pm21 an21 cd21 ct21), sl21⟩) (c21 : PySem.W.codeIn K cd21 "_law_least_right" = true) (k21 : PySem.W.keepIn K (.ref f21) = true)
    {f22 : Addr} {od22 an22 : Option Addr} {sl22 : Array (Option Value)} {oc22 kV22 dc22 pm22 cd22 ct22 : Value}
    (a22 : PySem.W.nsIn K mainGlobals "_law_right" = some (some (.ref f22))) (l22 : K.lookup f22 = some ⟨oc22, od22, .func (PySem.W.fnOf "_law_right" "_law_right" (defArgs s__law_right) (defBody s__law_right) (defScope s__law_right) .none kV22 dc22 pm22 an22 cd22 ct22), sl22⟩) (c22 : PySem.W.codeIn K cd22 "_law_right" = true) (k22 : PySem.W.keepIn K (.ref f22) = true)
    {f23 : Addr} {od23 an23 : Option Addr} {sl23 : Array (Option Value)} {oc23 kV23 dc23 pm23 cd23 ct23 : Value}
    (a23 : PySem.W.nsIn K mainGlobals "_law_new_right" = some (some (.ref f23))) (l23 : K.lookup f23 = some ⟨oc23, od23, .func (PySem.W.fnOf "_law_new_right" "_law_new_right" (defArgs s__law_new_right) (defBody s__law_new_right) (defScope s__law_new_right) .none kV23 dc23 pm23 an23 cd23 ct23), sl23⟩) (c23 : PySem.W.codeIn K cd23 "_law_new_right" = true) (k23 : PySem.W.keepIn K (.ref f23) = true)
    {f24 : Addr} {od24 an24 : Option Addr} {sl24 : Array (Option Value)} {oc24 kV24 dc24 pm24 cd24 ct24 : Value}
    (a24 : PySem.W.nsIn K mainGlobals "law" = some (some (.ref f24))) (l24 : K.lookup f24 = some ⟨oc24, od24, .func (PySem.W.fnOf "law" "law" (defArgs s_law) (defBody s_law) (defScope s_law) .none kV24 dc24 pm24 an24 cd24 ct24), sl24⟩) (c24 : PySem.W.codeIn K cd24 "law" = true) (k24 : PySem.W.keepIn K (.ref f24) = true)
    {cD : Addr} {fI cI cdI : Addr} {ocI clI cclI : Value} {odI cldI cddI anI : Option Addr} {kVI docI pmI ctI : Value} {oslI cslI ccsI : Array (Option Value)} {vsI : Array Value} {flI : Str} {tfI : Tok} {cdD : ClassData}
    (aW : PySem.W.nsIn K mainGlobals "WindowError" = some (some (.ref cD))) (iI : PySem.W.findIn K (.ref cD) "__init__" = some (some (.ref fI)))
    (lI : K.lookup fI = some ⟨ocI, odI, .func (PySem.W.fnX "__init__" "WindowError.__init__" (defArgs s_init) (defBody s_init) (defScope s_init) [("__class__", cI)] .none kVI docI pmI anI (.ref cdI) ctI), oslI⟩) (qI : PySem.W.codeIn K (.ref cdI) "WindowError.__init__" = true)
    (ceI : K.lookup cI = some ⟨clI, cldI, .cell (some (.ref cD)), cslI⟩) (fiI : K.lookup cdI = some ⟨cclI, cddI, .fields vsI, ccsI⟩) (viI : vsI[2]? = some (.str flI tfI)) (wiI : ((PR.main.file : Str) == flI) = true) (clD : PySem.W.clsIn K cD = some cdD) (suI : PySem.W.nsIn K mainGlobals "super" = some none)
    (opI : PySem.W.nsIn K cStatics "thirdparty.any" = some none) (tyI : PySem.W.typeIn K (.ref fI) = some (.type "function"))
    {e0 : Addr} {nme0 qe0 : Str} {Ne0 : Addr} {bse0 : List Value} {sne0 : List Str} {sube0 : List Value} {abe0 : Bool} {cole0 : Option Bool} {dde0 : Option Addr} {m0e0 m1e0 m2e0 m3e0 m5e0 : Option Value}
    (aCe0 : PySem.W.nsIn K mainGlobals "WindowError" = some (some (.ref e0))) (xLe0 : K.lookup e0 = some (excClassObj nme0 qe0 e0 Ne0 bse0 PySem.HandSPX.veTail true sne0 sube0 abe0 cole0 dde0 m0e0 m1e0 m2e0 m3e0 m5e0 "ValueError.__new__")) (rve0 : e0 = cD)
    (sae0 : PySem.W.findIn K (.ref e0) "__setattr__" = some (some (.builtin "object.__setattr__"))) (gae0 : PySem.W.findIn K (.ref e0) "__getattribute__" = some (some (.builtin "BaseException.__getattribute__"))) (gge0 : PySem.W.findIn K (.ref e0) "__getattr__" = some none) (nve0 : PySem.W.findIn K (.ref e0) "value" = some none) (ine0 : PySem.W.findIn K (.ref e0) "__init__" = some (some (.ref fI)))
    (kCe0 : PySem.W.keepIn K (.ref e0) = true) (eCe0 : PySem.W.subIn K (.ref e0) (.type "BaseException") = some true) (tCe0 : PySem.W.typeIn K (.ref e0) = some (.type "type")) (hCe0 : PySem.W.hasDictIn K e0 = true) (mre0 : PySem.W.mroIn K e0 (.ref cD) = some true) (ice0 : PySem.W.isClsIn K e0 = true) (sve0 : PySem.W.subIn K (.ref e0) (.type "ValueError") = some true)
    {e1 : Addr} {nme1 qe1 : Str} {Ne1 : Addr} {bse1 : List Value} {sne1 : List Str} {sube1 : List Value} {abe1 : Bool} {cole1 : Option Bool} {dde1 : Option Addr} {m0e1 m1e1 m2e1 m3e1 m5e1 : Option Value}
    (aCe1 : PySem.W.nsIn K mainGlobals "InvalidNumber" = some (some (.ref e1))) (xLe1 : K.lookup e1 = some (excClassObj nme1 qe1 e1 Ne1 bse1 (.ref cD :: PySem.HandSPX.veTail) true sne1 sube1 abe1 cole1 dde1 m0e1 m1e1 m2e1 m3e1 m5e1 "ValueError.__new__")) (rve1 : (e1 == cD) = false)
    (sae1 : PySem.W.findIn K (.ref e1) "__setattr__" = some (some (.builtin "object.__setattr__"))) (gae1 : PySem.W.findIn K (.ref e1) "__getattribute__" = some (some (.builtin "BaseException.__getattribute__"))) (gge1 : PySem.W.findIn K (.ref e1) "__getattr__" = some none) (nve1 : PySem.W.findIn K (.ref e1) "value" = some none) (ine1 : PySem.W.findIn K (.ref e1) "__init__" = some (some (.ref fI)))
    (kCe1 : PySem.W.keepIn K (.ref e1) = true) (eCe1 : PySem.W.subIn K (.ref e1) (.type "BaseException") = some true) (tCe1 : PySem.W.typeIn K (.ref e1) = some (.type "type")) (hCe1 : PySem.W.hasDictIn K e1 = true) (mre1 : PySem.W.mroIn K e1 (.ref cD) = some true) (ice1 : PySem.W.isClsIn K e1 = true) (sve1 : PySem.W.subIn K (.ref e1) (.type "ValueError") = some true)
    {e2 : Addr} {nme2 qe2 : Str} {Ne2 : Addr} {bse2 : List Value} {sne2 : List Str} {sube2 : List Value} {abe2 : Bool} {cole2 : Option Bool} {dde2 : Option Addr} {m0e2 m1e2 m2e2 m3e2 m5e2 : Option Value}
    (aCe2 : PySem.W.nsIn K mainGlobals "InvalidRow" = some (some (.ref e2))) (xLe2 : K.lookup e2 = some (excClassObj nme2 qe2 e2 Ne2 bse2 (.ref cD :: PySem.HandSPX.veTail) true sne2 sube2 abe2 cole2 dde2 m0e2 m1e2 m2e2 m3e2 m5e2 "ValueError.__new__")) (rve2 : (e2 == cD) = false)
    (sae2 : PySem.W.findIn K (.ref e2) "__setattr__" = some (some (.builtin "object.__setattr__"))) (gae2 : PySem.W.findIn K (.ref e2) "__getattribute__" = some (some (.builtin "BaseException.__getattribute__"))) (gge2 : PySem.W.findIn K (.ref e2) "__getattr__" = some none) (nve2 : PySem.W.findIn K (.ref e2) "value" = some none) (ine2 : PySem.W.findIn K (.ref e2) "__init__" = some (some (.ref fI)))
    (kCe2 : PySem.W.keepIn K (.ref e2) = true) (eCe2 : PySem.W.subIn K (.ref e2) (.type "BaseException") = some true) (tCe2 : PySem.W.typeIn K (.ref e2) = some (.type "type")) (hCe2 : PySem.W.hasDictIn K e2 = true) (mre2 : PySem.W.mroIn K e2 (.ref cD) = some true) (ice2 : PySem.W.isClsIn K e2 = true) (sve2 : PySem.W.subIn K (.ref e2) (.type "ValueError") = some true)
    {e3 : Addr} {nme3 qe3 : Str} {Ne3 : Addr} {bse3 : List Value} {sne3 : List Str} {sube3 : List Value} {abe3 : Bool} {cole3 : Option Bool} {dde3 : Option Addr} {m0e3 m1e3 m2e3 m3e3 m5e3 : Option Value}
    (aCe3 : PySem.W.nsIn K mainGlobals "InvalidColumn" = some (some (.ref e3))) (xLe3 : K.lookup e3 = some (excClassObj nme3 qe3 e3 Ne3 bse3 (.ref cD :: PySem.HandSPX.veTail) true sne3 sube3 abe3 cole3 dde3 m0e3 m1e3 m2e3 m3e3 m5e3 "ValueError.__new__")) (rve3 : (e3 == cD) = false)
    (sae3 : PySem.W.findIn K (.ref e3) "__setattr__" = some (some (.builtin "object.__setattr__"))) (gae3 : PySem.W.findIn K (.ref e3) "__getattribute__" = some (some (.builtin "BaseException.__getattribute__"))) (gge3 : PySem.W.findIn K (.ref e3) "__getattr__" = some none) (nve3 : PySem.W.findIn K (.ref e3) "value" = some none) (ine3 : PySem.W.findIn K (.ref e3) "__init__" = some (some (.ref fI)))
    (kCe3 : PySem.W.keepIn K (.ref e3) = true) (eCe3 : PySem.W.subIn K (.ref e3) (.type "BaseException") = some true) (tCe3 : PySem.W.typeIn K (.ref e3) = some (.type "type")) (hCe3 : PySem.W.hasDictIn K e3 = true) (mre3 : PySem.W.mroIn K e3 (.ref cD) = some true) (ice3 : PySem.W.isClsIn K e3 = true) (sve3 : PySem.W.subIn K (.ref e3) (.type "ValueError") = some true)
    {e4 : Addr} {nme4 qe4 : Str} {Ne4 : Addr} {bse4 : List Value} {sne4 : List Str} {sube4 : List Value} {abe4 : Bool} {cole4 : Option Bool} {dde4 : Option Addr} {m0e4 m1e4 m2e4 m3e4 m5e4 : Option Value}
    (aCe4 : PySem.W.nsIn K mainGlobals "InvalidOrder" = some (some (.ref e4))) (xLe4 : K.lookup e4 = some (excClassObj nme4 qe4 e4 Ne4 bse4 (.ref cD :: PySem.HandSPX.veTail) true sne4 sube4 abe4 cole4 dde4 m0e4 m1e4 m2e4 m3e4 m5e4 "ValueError.__new__")) (rve4 : (e4 == cD) = false)
    (sae4 : PySem.W.findIn K (.ref e4) "__setattr__" = some (some (.builtin "object.__setattr__"))) (gae4 : PySem.W.findIn K (.ref e4) "__getattribute__" = some (some (.builtin "BaseException.__getattribute__"))) (gge4 : PySem.W.findIn K (.ref e4) "__getattr__" = some none) (nve4 : PySem.W.findIn K (.ref e4) "value" = some none) (ine4 : PySem.W.findIn K (.ref e4) "__init__" = some (some (.ref fI)))
    (kCe4 : PySem.W.keepIn K (.ref e4) = true) (eCe4 : PySem.W.subIn K (.ref e4) (.type "BaseException") = some true) (tCe4 : PySem.W.typeIn K (.ref e4) = some (.type "type")) (hCe4 : PySem.W.hasDictIn K e4 = true) (mre4 : PySem.W.mroIn K e4 (.ref cD) = some true) (ice4 : PySem.W.isClsIn K e4 = true) (sve4 : PySem.W.subIn K (.ref e4) (.type "ValueError") = some true)
    {k_Spots : Addr} (aCk_Spots : PySem.W.nsIn K mainGlobals "Spots" = some (some (.ref k_Spots))) (pgk_Spots : PySem.W.plainGet K k_Spots Str.empty = true) (hdk_Spots : PySem.W.hasDictIn K k_Spots = true) (pok_Spots : PySem.W.plainOver K k_Spots = true) (sak_Spots : PySem.W.findIn K (.ref k_Spots) "__setattr__" = some (some (.builtin "object.__setattr__")))
    (nak_Spots_size : PySem.W.findIn K (.ref k_Spots) "size" = some none)
    (nak_Spots_steps : PySem.W.findIn K (.ref k_Spots) "steps" = some none)
    (nak_Spots_descending : PySem.W.findIn K (.ref k_Spots) "descending" = some none)
    {w_Spots___init__ : Addr} {odw_Spots___init__ anw_Spots___init__ : Option Addr} {slw_Spots___init__ : Array (Option Value)} {ocw_Spots___init__ kVw_Spots___init__ dcw_Spots___init__ pmw_Spots___init__ cdw_Spots___init__ ctw_Spots___init__ : Value} (aw_Spots___init__ : PySem.W.findIn K (.ref k_Spots) "__init__" = some (some (.ref w_Spots___init__))) (lw_Spots___init__ : K.lookup w_Spots___init__ = some ⟨ocw_Spots___init__, odw_Spots___init__, .func (PySem.W.fnOf "__init__" "Spots.__init__" (defArgs s_Spots___init__) (defBody s_Spots___init__) (defScope s_Spots___init__) .none kVw_Spots___init__ dcw_Spots___init__ pmw_Spots___init__ anw_Spots___init__ cdw_Spots___init__ ctw_Spots___init__), slw_Spots___init__⟩) (cw_Spots___init__ : PySem.W.codeIn K cdw_Spots___init__ "Spots.__init__" = true) (kw_Spots___init__ : PySem.W.keepIn K (.ref w_Spots___init__) = true) (nw_Spots___init__ : PySem.W.isFn K (.ref w_Spots___init__) = true)
    (mkk_Spots : PySem.W.makesIn K k_Spots = true) (kpk_Spots : PySem.W.keepIn K (.ref k_Spots) = true)
    {w_Spots_is_mixed : Addr} {odw_Spots_is_mixed anw_Spots_is_mixed : Option Addr} {slw_Spots_is_mixed : Array (Option Value)} {ocw_Spots_is_mixed kVw_Spots_is_mixed dcw_Spots_is_mixed pmw_Spots_is_mixed cdw_Spots_is_mixed ctw_Spots_is_mixed : Value} (aw_Spots_is_mixed : PySem.W.findIn K (.ref k_Spots) "is_mixed" = some (some (.ref w_Spots_is_mixed))) (lw_Spots_is_mixed : K.lookup w_Spots_is_mixed = some ⟨ocw_Spots_is_mixed, odw_Spots_is_mixed, .func (PySem.W.fnOf "is_mixed" "Spots.is_mixed" (defArgs s_Spots_is_mixed) (defBody s_Spots_is_mixed) (defScope s_Spots_is_mixed) .none kVw_Spots_is_mixed dcw_Spots_is_mixed pmw_Spots_is_mixed anw_Spots_is_mixed cdw_Spots_is_mixed ctw_Spots_is_mixed), slw_Spots_is_mixed⟩) (cw_Spots_is_mixed : PySem.W.codeIn K cdw_Spots_is_mixed "Spots.is_mixed" = true) (kw_Spots_is_mixed : PySem.W.keepIn K (.ref w_Spots_is_mixed) = true) (nw_Spots_is_mixed : PySem.W.isFn K (.ref w_Spots_is_mixed) = true)
    {w_Spots_is_tied : Addr} {odw_Spots_is_tied anw_Spots_is_tied : Option Addr} {slw_Spots_is_tied : Array (Option Value)} {ocw_Spots_is_tied kVw_Spots_is_tied dcw_Spots_is_tied pmw_Spots_is_tied cdw_Spots_is_tied ctw_Spots_is_tied : Value} (aw_Spots_is_tied : PySem.W.findIn K (.ref k_Spots) "is_tied" = some (some (.ref w_Spots_is_tied))) (lw_Spots_is_tied : K.lookup w_Spots_is_tied = some ⟨ocw_Spots_is_tied, odw_Spots_is_tied, .func (PySem.W.fnOf "is_tied" "Spots.is_tied" (defArgs s_Spots_is_tied) (defBody s_Spots_is_tied) (defScope s_Spots_is_tied) .none kVw_Spots_is_tied dcw_Spots_is_tied pmw_Spots_is_tied anw_Spots_is_tied cdw_Spots_is_tied ctw_Spots_is_tied), slw_Spots_is_tied⟩) (cw_Spots_is_tied : PySem.W.codeIn K cdw_Spots_is_tied "Spots.is_tied" = true) (kw_Spots_is_tied : PySem.W.keepIn K (.ref w_Spots_is_tied) = true) (nw_Spots_is_tied : PySem.W.isFn K (.ref w_Spots_is_tied) = true)
    {w_Spots_bars : Addr} {odw_Spots_bars anw_Spots_bars : Option Addr} {slw_Spots_bars : Array (Option Value)} {ocw_Spots_bars kVw_Spots_bars dcw_Spots_bars pmw_Spots_bars cdw_Spots_bars ctw_Spots_bars : Value} (aw_Spots_bars : PySem.W.findIn K (.ref k_Spots) "bars" = some (some (.ref w_Spots_bars))) (lw_Spots_bars : K.lookup w_Spots_bars = some ⟨ocw_Spots_bars, odw_Spots_bars, .func (PySem.W.fnOf "bars" "Spots.bars" (defArgs s_Spots_bars) (defBody s_Spots_bars) (defScope s_Spots_bars) .none kVw_Spots_bars dcw_Spots_bars pmw_Spots_bars anw_Spots_bars cdw_Spots_bars ctw_Spots_bars), slw_Spots_bars⟩) (cw_Spots_bars : PySem.W.codeIn K cdw_Spots_bars "Spots.bars" = true) (kw_Spots_bars : PySem.W.keepIn K (.ref w_Spots_bars) = true) (nw_Spots_bars : PySem.W.isFn K (.ref w_Spots_bars) = true)
    {w_Spots_settled : Addr} {odw_Spots_settled anw_Spots_settled : Option Addr} {slw_Spots_settled : Array (Option Value)} {ocw_Spots_settled kVw_Spots_settled dcw_Spots_settled pmw_Spots_settled cdw_Spots_settled ctw_Spots_settled : Value} (aw_Spots_settled : PySem.W.findIn K (.ref k_Spots) "settled" = some (some (.ref w_Spots_settled))) (lw_Spots_settled : K.lookup w_Spots_settled = some ⟨ocw_Spots_settled, odw_Spots_settled, .func (PySem.W.fnOf "settled" "Spots.settled" (defArgs s_Spots_settled) (defBody s_Spots_settled) (defScope s_Spots_settled) .none kVw_Spots_settled dcw_Spots_settled pmw_Spots_settled anw_Spots_settled cdw_Spots_settled ctw_Spots_settled), slw_Spots_settled⟩) (cw_Spots_settled : PySem.W.codeIn K cdw_Spots_settled "Spots.settled" = true) (kw_Spots_settled : PySem.W.keepIn K (.ref w_Spots_settled) = true) (nw_Spots_settled : PySem.W.isFn K (.ref w_Spots_settled) = true)
    {k_Table : Addr} (aCk_Table : PySem.W.nsIn K mainGlobals "Table" = some (some (.ref k_Table))) (pgk_Table : PySem.W.plainGet K k_Table Str.empty = true) (hdk_Table : PySem.W.hasDictIn K k_Table = true) (pok_Table : PySem.W.plainOver K k_Table = true) (sak_Table : PySem.W.findIn K (.ref k_Table) "__setattr__" = some (some (.builtin "object.__setattr__")))
    (nak_Table_wide : PySem.W.findIn K (.ref k_Table) "wide" = some none)
    (nak_Table_cell_rows : PySem.W.findIn K (.ref k_Table) "cell_rows" = some none)
    {w_Table___init__ : Addr} {odw_Table___init__ anw_Table___init__ : Option Addr} {slw_Table___init__ : Array (Option Value)} {ocw_Table___init__ kVw_Table___init__ dcw_Table___init__ pmw_Table___init__ cdw_Table___init__ ctw_Table___init__ : Value} (aw_Table___init__ : PySem.W.findIn K (.ref k_Table) "__init__" = some (some (.ref w_Table___init__))) (lw_Table___init__ : K.lookup w_Table___init__ = some ⟨ocw_Table___init__, odw_Table___init__, .func (PySem.W.fnOf "__init__" "Table.__init__" (defArgs s_Table___init__) (defBody s_Table___init__) (defScope s_Table___init__) .none kVw_Table___init__ dcw_Table___init__ pmw_Table___init__ anw_Table___init__ cdw_Table___init__ ctw_Table___init__), slw_Table___init__⟩) (cw_Table___init__ : PySem.W.codeIn K cdw_Table___init__ "Table.__init__" = true) (kw_Table___init__ : PySem.W.keepIn K (.ref w_Table___init__) = true) (nw_Table___init__ : PySem.W.isFn K (.ref w_Table___init__) = true)
    (mkk_Table : PySem.W.makesIn K k_Table = true) (kpk_Table : PySem.W.keepIn K (.ref k_Table) = true)
    {w_Table_width : Addr} {odw_Table_width anw_Table_width : Option Addr} {slw_Table_width : Array (Option Value)} {ocw_Table_width kVw_Table_width dcw_Table_width pmw_Table_width cdw_Table_width ctw_Table_width : Value} {ppw_Table_width : Addr} {rsw_Table_width : List Value} (aw_Table_width : PySem.W.findIn K (.ref k_Table) "width" = some (some (.ref ppw_Table_width))) (gpw_Table_width : PySem.W.specialIn K (.ref ppw_Table_width) "__get__" = some (some (.builtin "property.__get__"))) (tpw_Table_width : PySem.W.takesIn K (.ref ppw_Table_width) = some true) (rpw_Table_width : PySem.W.recIn K ppw_Table_width "property" = some (.ref w_Table_width :: rsw_Table_width)) (lw_Table_width : K.lookup w_Table_width = some ⟨ocw_Table_width, odw_Table_width, .func (PySem.W.fnOf "width" "Table.width" (defArgs s_Table_width) (defBody s_Table_width) (defScope s_Table_width) .none kVw_Table_width dcw_Table_width pmw_Table_width anw_Table_width cdw_Table_width ctw_Table_width), slw_Table_width⟩) (cw_Table_width : PySem.W.codeIn K cdw_Table_width "Table.width" = true) (kw_Table_width : PySem.W.keepIn K (.ref w_Table_width) = true)
    {w_Table_column : Addr} {odw_Table_column anw_Table_column : Option Addr} {slw_Table_column : Array (Option Value)} {ocw_Table_column kVw_Table_column dcw_Table_column pmw_Table_column cdw_Table_column ctw_Table_column : Value} (aw_Table_column : PySem.W.findIn K (.ref k_Table) "column" = some (some (.ref w_Table_column))) (lw_Table_column : K.lookup w_Table_column = some ⟨ocw_Table_column, odw_Table_column, .func (PySem.W.fnOf "column" "Table.column" (defArgs s_Table_column) (defBody s_Table_column) (defScope s_Table_column) .none kVw_Table_column dcw_Table_column pmw_Table_column anw_Table_column cdw_Table_column ctw_Table_column), slw_Table_column⟩) (cw_Table_column : PySem.W.codeIn K cdw_Table_column "Table.column" = true) (kw_Table_column : PySem.W.keepIn K (.ref w_Table_column) = true) (nw_Table_column : PySem.W.isFn K (.ref w_Table_column) = true)
    {w_Table___len__ : Addr} {odw_Table___len__ anw_Table___len__ : Option Addr} {slw_Table___len__ : Array (Option Value)} {ocw_Table___len__ kVw_Table___len__ dcw_Table___len__ pmw_Table___len__ cdw_Table___len__ ctw_Table___len__ : Value} (aw_Table___len__ : PySem.W.findIn K (.ref k_Table) "__len__" = some (some (.ref w_Table___len__))) (lw_Table___len__ : K.lookup w_Table___len__ = some ⟨ocw_Table___len__, odw_Table___len__, .func (PySem.W.fnOf "__len__" "Table.__len__" (defArgs s_Table___len__) (defBody s_Table___len__) (defScope s_Table___len__) .none kVw_Table___len__ dcw_Table___len__ pmw_Table___len__ anw_Table___len__ cdw_Table___len__ ctw_Table___len__), slw_Table___len__⟩) (cw_Table___len__ : PySem.W.codeIn K cdw_Table___len__ "Table.__len__" = true) (kw_Table___len__ : PySem.W.keepIn K (.ref w_Table___len__) = true) (nw_Table___len__ : PySem.W.isFn K (.ref w_Table___len__) = true)
    (z_sorted : PySem.W.nsIn K mainGlobals "sorted" = some none)
    (z_list : PySem.W.nsIn K mainGlobals "list" = some none)
    (z_range : PySem.W.nsIn K mainGlobals "range" = some none)
    (z_len : PySem.W.nsIn K mainGlobals "len" = some none)
    (z_any : PySem.W.nsIn K mainGlobals "any" = some none)
    (z_all : PySem.W.nsIn K mainGlobals "all" = some none)
    (z_max : PySem.W.nsIn K mainGlobals "max" = some none)
    (z_int : PySem.W.nsIn K mainGlobals "int" = some none)
    (z_abs : PySem.W.nsIn K mainGlobals "abs" = some none)
    (z_isinstance : PySem.W.nsIn K mainGlobals "isinstance" = some none)
    (z_bool : PySem.W.nsIn K mainGlobals "bool" = some none)
    (z_repr : PySem.W.nsIn K mainGlobals "repr" = some none)
    (z_min : PySem.W.nsIn K mainGlobals "min" = some none)
    (z_enumerate : PySem.W.nsIn K mainGlobals "enumerate" = some none)
    (z_tuple : PySem.W.nsIn K mainGlobals "tuple" = some none)
    (nP : [cp5, cp12, cp18].Nodup)
    : ∃ T : Txt K mg, T.d_law = PySem.W.fnOf "law" "law" (defArgs s_law) (defBody s_law) (defScope s_law) .none kV24 dc24 pm24 an24 cd24 ct24 ∧ T.a_law = f24 ∧ ∀ c P, (c, P) ∈ T.cs → h.get? P = some (PySem.W.tabObj #[]) ∧ K.lookup P = none ∧ PySem.W.CodeHd h c P :=
  ⟨⟨f0, _, fun_mk (st := s_need_column) l0 c0 k0, PySem.W.mg_of X G a0, f1, _, fun_mk (st := s_need_order) l1 c1 k1, PySem.W.mg_of X G a1, f2, _, fun_mk (st := s_usable) l2 c2 k2, PySem.W.mg_of X G a2, f3, _, fun_mk (st := s_barring) l3 c3 k3, PySem.W.mg_of X G a3, f4, _, fun_mk (st := s_judge_barring) l4 c4 k4, PySem.W.mg_of X G a4, f5, _, cc5, cp5, funL_mk (st := s_parts_of) l5 c5 k5, PySem.W.mg_of X G a5, f6, _, fun_mk (st := s_least_barring) l6 c6 k6, PySem.W.mg_of X G a6, f7, _, fun_mk (st := s__law_open) l7 c7 k7, PySem.W.mg_of X G a7, f8, _, fun_mk (st := s__law_draw) l8 c8 k8, PySem.W.mg_of X G a8, f9, _, fun_mk (st := s__law_rows) l9 c9 k9, PySem.W.mg_of X G a9, f10, _, fun_mk (st := s__law_keys) l10 c10 k10, PySem.W.mg_of X G a10, f11, _, fun_mk (st := s__law_every) l11 c11 k11, PySem.W.mg_of X G a11, f12, _, cc12, cp12, funL_mk (st := s__law_order) l12 c12 k12, PySem.W.mg_of X G a12, f13, _, fun_mk (st := s__law_says) l13 c13 k13, PySem.W.mg_of X G a13, f14, _, fun_mk (st := s__law_step) l14 c14 k14, PySem.W.mg_of X G a14, f15, _, fun_mk (st := s__law_mixed) l15 c15 k15, PySem.W.mg_of X G a15, f16, _, fun_mk (st := s__law_bars) l16 c16 k16, PySem.W.mg_of X G a16, f17, _, fun_mk (st := s__law_chosen) l17 c17 k17, PySem.W.mg_of X G a17, f18, _, cc18, cp18, funL_mk (st := s__law_parts) l18 c18 k18, PySem.W.mg_of X G a18, f19, _, fun_mk (st := s__law_drawn) l19 c19 k19, PySem.W.mg_of X G a19, f20, _, fun_mk (st := s__law_lists_right) l20 c20 k20, PySem.W.mg_of X G a20, f21, _, fun_mk (st := s__law_least_right) l21 c21 k21, PySem.W.mg_of X G a21, f22, _, fun_mk (st := s__law_right) l22 c22 k22, PySem.W.mg_of X G a22, f23, _, fun_mk (st := s__law_new_right) l23 c23 k23, PySem.W.mg_of X G a23, f24, _, fun_mk (st := s_law) l24 c24 k24, PySem.W.mg_of X G a24, fI, cI, cdI, cD, _, ⟨⟨_, _, _, _, _, _, _, _, rfl, lI⟩, qI, ⟨_, _, _, ceI⟩, ⟨_, _, _, _, _, _, fiI, viI, wiI⟩, ⟨_, clD⟩, PySem.W.mg_none_of X G suI, by rfl, opI⟩, e0, ⟨⟨⟨_, _, _, _, _, _, _, _, _, _, _, _, _, _, _, xLe0, rfl⟩, sae0, eCe0, tCe0, kCe0⟩, ine0, tyI, nve0, mre0, sup_self xLe0 rve0, sve0, ⟨gae0, gge0, eCe0, hCe0⟩⟩, PySem.W.mg_of X G aCe0, e1, ⟨⟨⟨_, _, _, _, _, _, _, _, _, _, _, _, _, _, _, xLe1, rfl⟩, sae1, eCe1, tCe1, kCe1⟩, ine1, tyI, nve1, mre1, sup_child xLe1 rve1, sve1, ⟨gae1, gge1, eCe1, hCe1⟩⟩, PySem.W.mg_of X G aCe1, e2, ⟨⟨⟨_, _, _, _, _, _, _, _, _, _, _, _, _, _, _, xLe2, rfl⟩, sae2, eCe2, tCe2, kCe2⟩, ine2, tyI, nve2, mre2, sup_child xLe2 rve2, sve2, ⟨gae2, gge2, eCe2, hCe2⟩⟩, PySem.W.mg_of X G aCe2, e3, ⟨⟨⟨_, _, _, _, _, _, _, _, _, _, _, _, _, _, _, xLe3, rfl⟩, sae3, eCe3, tCe3, kCe3⟩, ine3, tyI, nve3, mre3, sup_child xLe3 rve3, sve3, ⟨gae3, gge3, eCe3, hCe3⟩⟩, PySem.W.mg_of X G aCe3, e4, ⟨⟨⟨_, _, _, _, _, _, _, _, _, _, _, _, _, _, _, xLe4, rfl⟩, sae4, eCe4, tCe4, kCe4⟩, ine4, tyI, nve4, mre4, sup_child xLe4 rve4, sve4, ⟨gae4, gge4, eCe4, hCe4⟩⟩, PySem.W.mg_of X G aCe4, k_Spots, PySem.W.mg_of X G aCk_Spots, ⟨pgk_Spots, hdk_Spots, pok_Spots, sak_Spots⟩, nak_Spots_size, nak_Spots_steps, nak_Spots_descending, w_Spots___init__, _, fun_mk (st := s_Spots___init__) lw_Spots___init__ cw_Spots___init__ kw_Spots___init__, ⟨aw_Spots___init__, nw_Spots___init__, kw_Spots___init__⟩, ⟨mkk_Spots, aw_Spots___init__, nw_Spots___init__, kpk_Spots⟩, w_Spots_is_mixed, _, fun_mk (st := s_Spots_is_mixed) lw_Spots_is_mixed cw_Spots_is_mixed kw_Spots_is_mixed, ⟨aw_Spots_is_mixed, nw_Spots_is_mixed, kw_Spots_is_mixed⟩, w_Spots_is_tied, _, fun_mk (st := s_Spots_is_tied) lw_Spots_is_tied cw_Spots_is_tied kw_Spots_is_tied, ⟨aw_Spots_is_tied, nw_Spots_is_tied, kw_Spots_is_tied⟩, w_Spots_bars, _, fun_mk (st := s_Spots_bars) lw_Spots_bars cw_Spots_bars kw_Spots_bars, ⟨aw_Spots_bars, nw_Spots_bars, kw_Spots_bars⟩, w_Spots_settled, _, fun_mk (st := s_Spots_settled) lw_Spots_settled cw_Spots_settled kw_Spots_settled, ⟨aw_Spots_settled, nw_Spots_settled, kw_Spots_settled⟩, k_Table, PySem.W.mg_of X G aCk_Table, ⟨pgk_Table, hdk_Table, pok_Table, sak_Table⟩, nak_Table_wide, nak_Table_cell_rows, w_Table___init__, _, fun_mk (st := s_Table___init__) lw_Table___init__ cw_Table___init__ kw_Table___init__, ⟨aw_Table___init__, nw_Table___init__, kw_Table___init__⟩, ⟨mkk_Table, aw_Table___init__, nw_Table___init__, kpk_Table⟩, w_Table_width, _, fun_mk (st := s_Table_width) lw_Table_width cw_Table_width kw_Table_width, ppw_Table_width, ⟨aw_Table_width, gpw_Table_width, tpw_Table_width, ⟨_, rpw_Table_width⟩⟩, w_Table_column, _, fun_mk (st := s_Table_column) lw_Table_column cw_Table_column kw_Table_column, ⟨aw_Table_column, nw_Table_column, kw_Table_column⟩, w_Table___len__, _, fun_mk (st := s_Table___len__) lw_Table___len__ cw_Table___len__ kw_Table___len__, ⟨aw_Table___len__, nw_Table___len__, kw_Table___len__⟩, PySem.W.mg_none_of X G z_sorted, PySem.W.mg_none_of X G z_list, PySem.W.mg_none_of X G z_range, PySem.W.mg_none_of X G z_len, PySem.W.mg_none_of X G z_any, PySem.W.mg_none_of X G z_all, PySem.W.mg_none_of X G z_max, PySem.W.mg_none_of X G z_int, PySem.W.mg_none_of X G z_abs, PySem.W.mg_none_of X G z_isinstance, PySem.W.mg_none_of X G z_bool, PySem.W.mg_none_of X G z_repr, PySem.W.mg_none_of X G z_min, PySem.W.mg_none_of X G z_enumerate, PySem.W.mg_none_of X G z_tuple, nP⟩, rfl, rfl, fun c P hm => (List.forall_mem_cons.mpr ⟨⟨tb5, nk5, PySem.W.codeHd_of_K X hd5⟩, List.forall_mem_cons.mpr ⟨⟨tb12, nk12, PySem.W.codeHd_of_K X hd12⟩, List.forall_mem_cons.mpr ⟨⟨tb18, nk18, PySem.W.codeHd_of_K X hd18⟩, fun _ z => nomatch z⟩⟩⟩ : ∀ p ∈ ([(cc5, cp5), (cc12, cp12), (cc18, cp18)] : List (Addr × Addr)), h.get? p.2 = some (PySem.W.tabObj #[]) ∧ K.lookup p.2 = none ∧ PySem.W.CodeHd h p.1 p.2) (c, P) hm⟩
theorem walk {l : PySem.W.OpenLaw} {q : Program} {loose : List Str} {XP : (Str → Option Value) → Heap → Prop} {YP : World → Heap → Prop} {d : DefRec} {K : Params → PySem.W.Frag} (hn : l.most = some 63) (hdf : d.params.defaults = [])
    (hY : ∀ (w : World) (h : Heap), YP w h → (K w.params).In h)
    (F : ∀ (w : World) (mg : Str → Option Value) (fa : Addr) (h : Heap), YP w h → (K w.params).In h → h.Ns mainGlobals mg → mg d.name = some (.ref fa) →
      ∃ T : Txt (K w.params) mg, (∀ (s : Shared) (u : Value), BindsTo s T.d_law ⟨[u], []⟩ [("_law_script", u)]) ∧ (∀ c P, (c, P) ∈ T.cs → h.get? P = some (PySem.W.tabObj #[]) ∧ (K w.params).lookup P = none ∧ PySem.W.CodeHd h c P) ∧
        ∀ base : Heap, (K w.params).In base → base.Ns mainGlobals mg → T.Bs base → FnOkG l.prog w (K w.params) mg base CX0 11 fa T.d_law ["_law_script"] (sp_law (K w.params) T.tabs)) :
    PySem.W.WalkO q loose XP YP l.row.toRowW d [] (fun f vs => PySem.call f vs) :=
  walk_tabs (n := 63) (k := 11) (x := "_law_script") (CX := fun _ => CX0) hn (by decide) hdf ⟨rfl, by decide, by decide⟩ hY (fun w mg fa h Y KX G hm =>
    let ⟨T, b, t, ok⟩ := F w mg fa h Y KX G hm
    ⟨T.d_law, T.cs, sp_law _ T.tabs, t, b, fun H a ns hl z S => ⟨a, ns, rfl, S, hl, tabs0_of (T := T.tabs) (cs := T.cs) rfl z, fun _ => rfl⟩, ok⟩) fun _ _ _ _ _ z => z
end K13
open PySem PySem.W PyProof.Rows
set_option maxRecDepth 100000 in
set_option maxHeartbeats 0 in
theorem PySem.Challenge.cw_listwindow_k13_orders_barred_by_spots_holds : PySem.Challenge.rw_listwindow_k13_orders_barred_by_spots.Holds := by
  w_on; o_law; k_head; (case hw => w_witness2)
  k_fill
  refine K13.walk (l := PySem.Challenge.rw_listwindow_k13_orders_barred_by_spots) rfl rfl (fun w h Y => PySem.W.km_in_of Y) ?F
  case F =>
    intro w mg fa h Y KX G hmg
    have T : ∃ T : K13.Txt _ mg, _ ∧ _ ∧ _ := K13.all_mk (h := h) KX G (by k_is) (by k_is) (by k_is) (by k_is) (by k_is) (by k_is) (by k_is) (by k_is) (by k_is) (by k_is) (by k_is) (by k_is) (by k_is) (by k_is) (by k_is) (by k_is) (by k_is) (by k_is) (by k_is) (by k_is) (by k_is) (by k_is) (by k_is) (by k_is) (by k_is) (by rfl) (PySem.W.km_tabs_of Y _ (by decide)) (by rfl) (by kernel_rfl) (by k_is) (by k_is) (by k_is) (by k_is) (by k_is) (by k_is) (by k_is) (by k_is) (by k_is) (by k_is) (by k_is) (by k_is) (by k_is) (by k_is) (by k_is) (by k_is) (by k_is) (by k_is) (by k_is) (by k_is) (by k_is) (by k_is) (by k_is) (by k_is) (by k_is) (by k_is) (by k_is) (by k_is) (by k_is) (by rfl) (PySem.W.km_tabs_of Y _ (by decide)) (by rfl) (by kernel_rfl) (by k_is) (by k_is) (by k_is) (by k_is) (by k_is) (by k_is) (by k_is) (by k_is) (by k_is) (by k_is) (by k_is) (by k_is) (by k_is) (by k_is) (by k_is) (by k_is) (by k_is) (by k_is) (by k_is) (by k_is) (by k_is) (by k_is) (by k_is) (by k_is) (by k_is) (by rfl) (PySem.W.km_tabs_of Y _ (by decide)) (by rfl) (by kernel_rfl) (by k_is) (by k_is) (by k_is) (by k_is) (by k_is) (by k_is) (by k_is) (by k_is) (by k_is) (by k_is) (by k_is) (by k_is) (by k_is) (by k_is) (by k_is) (by k_is) (by k_is) (by k_is) (by k_is) (by k_is) (by k_is) (by k_is) (by k_is) (by k_is) (by k_is) (by k_is) (by k_is) (by k_is) (by k_is) (by k_is) (by rfl) (by decide +kernel) (by k_is) (by k_is) (by k_is) (by k_is) (by k_is) (by k_is) (by rfl) (by k_is) (by k_is) (by k_is) (by k_is) (by k_is) (by k_is) (by k_is) (by k_is) (by k_is) (by k_is) (by k_is) (by k_is) (by k_is) (by k_is) (by rfl) (by k_is) (by k_is) (by k_is) (by k_is) (by k_is) (by k_is) (by k_is) (by k_is) (by k_is) (by k_is) (by k_is) (by k_is) (by k_is) (by k_is) (by rfl) (by k_is) (by k_is) (by k_is) (by k_is) (by k_is) (by k_is) (by k_is) (by k_is) (by k_is) (by k_is) (by k_is) (by k_is) (by k_is) (by k_is) (by rfl) (by k_is) (by k_is) (by k_is) (by k_is) (by k_is) (by k_is) (by k_is) (by k_is) (by k_is) (by k_is) (by k_is) (by k_is) (by k_is) (by k_is) (by rfl) (by k_is) (by k_is) (by k_is) (by k_is) (by k_is) (by k_is) (by k_is) (by k_is) (by k_is) (by k_is) (by k_is) (by k_is) (by k_is) (by k_is) (by k_is) (by k_is) (by k_is) (by k_is) (by k_is) (by k_is) (by k_is) (by k_is) (by k_is) (by k_is) (by k_is) (by k_is) (by k_is) (by k_is) (by k_is) (by k_is) (by k_is) (by k_is) (by k_is) (by k_is) (by k_is) (by k_is) (by k_is) (by k_is) (by k_is) (by k_is) (by k_is) (by k_is) (by k_is) (by k_is) (by k_is) (by k_is) (by k_is) (by k_is) (by k_is) (by k_is) (by k_is) (by k_is) (by k_is) (by k_is) (by k_is) (by k_is) (by k_is) (by k_is) (by k_is) (by k_is) (by k_is) (by k_is) (by k_is) (by k_is) (by k_is) (by k_is) (by k_is) (by k_is) (by k_is) (by k_is) (by k_is) (by k_is) (by k_is) (by k_is) (by k_is) (by k_is) (by k_is) (by k_is) (by k_is) (by k_is) (by k_is) (by k_is) (by k_is) (by k_is) (by k_is) (by k_is) (by k_is) (by k_is) (by k_is) (by k_is) (by k_is) (by k_is) (by k_is) (by decide)
    obtain ⟨T, e1, e2, e4⟩ := T
    have e3 := hmg.symm.trans T.g_law
    cases e3
    exact ⟨T, fun s v => by rw [e1]; exact .of_eq rfl, e4, fun base _ _ hB => K13.ok_law T hB⟩
#print axioms PySem.Challenge.cw_listwindow_k13_orders_barred_by_spots_holds

