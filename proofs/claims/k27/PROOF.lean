import PyProof.Rows.All
import Wide.All
import OpenK.AllK
import Wide.FinOn
import HandS.ForMost
import HandS.Wide
import HandS.Style
import HandS.SortInts
import HandS.IsInst
import HandS.Evl
import HandS.Walk
import HandS.ForExc
import HandS.ExcInit
import HandS.ExcField
import HandS.ExcSuper
import HandS.Nested
import KE.KExcSuper
import HandS.Zip
import HandS.Sort
import PyProof.ReprRoads
import HandS.DictTup
import HandS.Set
import HandS.Dict
import HandS.DictComp
import HandS.NoneIn
import HandS.Conv
import HandS.OwnEq
import HandS.Property
import KE.SortKeyed
import HandS.SortOrd
import HandS.SetFor
import HandS.Strs
import HandS.Star
import KE.SortData
import KE.GoesEnum
import KE.KDictKeyed
import KE.KDictDisplayH
import HandS.TupLen
import KE.KDictPairs
import PySem.Challenge.RW_listwindow_k27_borders_blocks_and_costs
set_option Elab.async false
set_option linter.all false
set_option maxRecDepth 100000
set_option maxHeartbeats 4000000
/-! My own rules over the hand layer: calls by keywords alone, powers of great ints, what a heap keeps. -/
namespace My
open PySem PySem.Spec PyProof.Rows L2
/-! ### calls by keywords -/
def kg (n m : Nat) (π : List Nat) {α : Type} (us ws : List α) : List α := if us.length = n ∧ ws.length = m then π.filterMap (fun i => (us ++ ws)[i]?) else []
theorem vals_pick {xs : List V} {us : List Value} (r : Vals xs us) : ∀ (π : List Nat), Vals (π.filterMap (fun i => xs[i]?)) (π.filterMap (fun i => us[i]?))
  | [] => .nil
  | i :: π => by
    have ih := vals_pick r π
    cases e : xs[i]? with
    | none =>
      rw [List.filterMap_cons, e, List.filterMap_cons, r.none_of e]
      exact ih
    | some x =>
      obtain ⟨u, h1, h2⟩ := r.get e
      rw [List.filterMap_cons, e, List.filterMap_cons, h1]
      exact .cons h2 ih
theorem kg_rel {n m : Nat} {π : List Nat} {vs zs : List V} {us ws : List Value} (r : Vals vs us) (rz : Vals zs ws) : Vals (kg n m π vs zs) (kg n m π us ws) := by
  unfold kg
  rw [r.length, rz.length]
  split
  · exact vals_pick (r.append rz) π
  · exact .nil
theorem kbinds {K : PySem.W.Frag} {x qual : Str} {st : Stmt} {f : Addr} {fd : FuncData} {ps ks : List Str} (n m : Nat) (π : List Nat) (F : Fun K x qual st f fd) (hp : 0 < ps.length)
    (h : ∀ (kV doc pm : Value) (an : Option Addr) (cdv ct : Value) (us ws : List Value), us.length = n → ws.length = m → bindArgs (PySem.W.fnOf x qual (defArgs st) (defBody st) (defScope st) .none kV doc pm an cdv ct) ⟨us, ks.zip ws⟩ = pure (ps.zip (kg n m π us ws))) : KBinds K fd ps ks (kg n m π) (kg n m π) := by
  obtain ⟨oc, od, kV, doc, pm, an, cdv, ct, osl, rfl, lk, hcd⟩ := F.ex
  refine ⟨fun s us ws _ hl => ?_, fun r rz => kg_rel r rz⟩
  by_cases z : us.length = n ∧ ws.length = m
  · exact .of_eq (h kV doc pm an cdv ct us ws z.1 z.2)
  · unfold kg at hl
    rw [if_neg z] at hl
    rw [← hl] at hp
    exact absurd hp (Nat.lt_irrefl _)
section
variable {X : Cx} {CX : CXT} {k : Nat} {f C : Addr} {fd : FuncData} {ps ks : List Str} {sp : Sp} {E : XK} {x m : Str} {p pos apos kpos : Pos} {kws : List Keyword} {tk : TA} {g : List Value → List Value → List Value} {gV : List V → List V → List V}
/-- f(k = v, ..) -/
theorem pe_callK0 (F : FnOk X.prog X.w X.K X.mg X.base CX k f fd ps sp) (hr : Room k X.A) (hg : Gl X x) (hm : X.mg x = some (.ref f)) (hk : PySem.W.keepIn X.K (.ref f) = true) (hb : KBinds X.K fd ps ks g gV) (hx : Passes CX X E)
    (hkw : PK X kws tk) (hall : (backToKw pos (keywordEach kws X.env)).all (·.1.isSome) = true := by rfl) (hks : (backToKw pos (keywordEach kws X.env)).filterMap (·.1) = ks := by rfl)
    (hdb : (x == ("__debug__" : Str)) = false := by decide)
    (hpl : ((backTo pos (starEach [] X.env)).any (·.1) || (backToKw pos (keywordEach kws X.env)).any (·.1.isNone)) = false := by rfl) :
    PE X (.Call (.Name x p) [] kws pos) (tCallK sp gV E tNil tk) := by
  refine ⟨fun pins s σ H Q I h => ?_⟩
  refine wpAny_Call_Name_kw (ld_glob I hg hm ?_ hdb)
  refine PySem.W.callWith_KW0 (h₀ := X.base) I.ok.mod.kin hk hall ?_ hpl
  refine thn (hkw.run pos pins s σ H _ I h) fun ws s2 ⟨zs, H2, I2, rz, q2⟩ => ⟨I2.kIn, ?_⟩
  rw [hks]
  exact run_fnk (us := []) (vs := []) F hr hb hx I2 .nil rz q2
end
/-! ### powers of great ints -/
/-- a power of together at most 2 ^ 27 bits -/
def CPowW (i j : Int) : Prop := 0 ≤ j ∧ ((i.natAbs.log2 : Int) + 1) * j ≤ 2 ^ 27
theorem bits_le (x : Int) : (Builtin.Int.intBits x : Int) ≤ (x.natAbs.log2 : Int) + 1 := by
  unfold Builtin.Int.intBits
  split <;> omega
theorem op_powW {X : Cx} : OpR X (binaryOp .Pow) (rI CPowW fun i j => .int (i ^ j.toNat)) := opI fun i j _ _ _ _ _ hc q =>
  pow_int hc.1 (Int.le_trans (Int.mul_le_mul_of_nonneg_right (bits_le i) hc.1) hc.2) q
theorem powW_of {i : Int} {j : Nat} {a : Nat} (h : i.natAbs < 2 ^ a) (h0 : 0 < a) (hj : a * j ≤ 2 ^ 27) : CPowW i (j : Int) := by
  have := PySem.Flt.log2_lt_of h0 h
  refine ⟨Int.natCast_nonneg _, ?_⟩
  have e : ((i.natAbs.log2 : Int) + 1) * (j : Int) = (((i.natAbs.log2 + 1) * j : Nat) : Int) := by
    rw [Int.natCast_mul]
    rfl
  rw [e]
  have : (i.natAbs.log2 + 1) * j ≤ a * j := Nat.mul_le_mul_right _ this
  have : (i.natAbs.log2 + 1) * j ≤ 2 ^ 27 := Nat.le_trans this hj
  omega
/-! ### heaps -/
abbrev Ex := Evl.Ex
/-- all but the object at j is as it was -/
def Exj (j : Addr) (H H' : Hp) : Prop := ∀ b o, b ≠ j → H b = some o → H' b = some o
theorem Exj.refl (j : Addr) (H : Hp) : Exj j H H := fun _ _ _ h => h
theorem Exj.trans {j : Addr} {H H1 H2 : Hp} (a : Exj j H H1) (b : Exj j H1 H2) : Exj j H H2 := fun x o n h => b x o n (a x o n h)
theorem Exj.of {j : Addr} {H H' : Hp} (a : Ex H H') : Exj j H H' := fun x o _ h => a x o h
theorem Exj.upd {j : Addr} {H H' : Hp} {o : HO} (a : Exj j H H') : Exj j H (upd H' j o) := fun x u n h => by
  rw [upd_ne n]
  exact a x u n h
theorem Exj.new {j p : Addr} {H H' : Hp} {o : HO} (a : Exj j H H') (h : H' p = none) : Exj j H (L2.upd H' p o) := fun x u n e => by
  have := a x u n e
  rw [upd_ne (ne_of_none this h)]
  exact this
theorem Exj.sq {K : PySem.W.Frag} {j : Addr} {H H' : Hp} {a : Addr} {xs : List V} (e : Exj j H H') (n : a ≠ j) (h : SqL K H a xs) : SqL K H' a xs := by
  rcases h with (h | ⟨o, h⟩) | h
  · exact .inl (.inl (e _ _ n h))
  · exact .inl (.inr ⟨o, e _ _ n h⟩)
  · exact .inr h
/-- a new object, its heap by name -/
theorem newO {H : Hp} {o : HO} {P : V → Hp → Prop} (k : ∀ p H', H p = none → Ex H H' → H' p = some o → P (.ref p) H') : ∀ p, H p = none → P (.ref p) (L2.upd H p o) := fun p hp => k p _ hp (Evl.Ex.new hp) upd_same
theorem sqI {K : PySem.W.Frag} {H : Hp} {a : Addr} {xs : List V} (h : H a = some (.lst xs)) : SqL K H a xs := .inl (.inl h)
theorem sqT {K : PySem.W.Frag} {H : Hp} {a : Addr} {xs : List V} (h : H a = some (.tup xs)) : SqT K H a xs := .inl (.inl h)
/-! ### data: how a thing of Lean stands in the heap -/
/-- a way of writing things as data: it can be laid, it is no deeper than n, equal data are equal things -/
structure Good {α : Type} [DecidableEq α] (e : α → PyData) (n : Nat) : Prop where
  lay : ∀ x, (e x).canLay0 = true
  dep : ∀ x, (e x).depth ≤ n
  eqv : ∀ x y, PyData.eqv (e x) (e y) = decide (x = y)
def eL {α : Type} (e : α → PyData) (xs : List α) : PyData := .list (xs.map e)
def eT {α : Type} (e : α → PyData) (xs : List α) : PyData := .tuple (xs.map e)
def eP {α β : Type} (e : α → PyData) (f : β → PyData) (p : α × β) : PyData := .tuple [e p.1, f p.2]
theorem goodI : Good PyData.int 0 := ⟨fun _ => rfl, fun _ => Nat.le_refl _, fun x y => by
  show (x == y) = _
  rw [Bool.eq_iff_iff]
  simp⟩
theorem goodB : Good PyData.bool 0 := ⟨fun _ => rfl, fun _ => Nat.le_refl _, fun x y => by
  show (x == y) = _
  rw [Bool.eq_iff_iff]
  simp⟩
section
variable {α β : Type} [DecidableEq α] [DecidableEq β] {e : α → PyData} {f : β → PyData} {n m : Nat}
theorem Good.layAll (g : Good e n) : ∀ xs : List α, PyData.canLayAll0 (xs.map e) = true
  | [] => rfl
  | x :: xs => by
    show (PyData.canLay0 (e x) && PyData.canLayAll0 (xs.map e)) = true
    rw [g.layAll xs, g.lay x]
    rfl
theorem Good.depAll (g : Good e n) : ∀ xs : List α, PyData.depthAll (xs.map e) ≤ n
  | [] => Nat.zero_le _
  | x :: xs => by
    show max (PyData.depth (e x)) (PyData.depthAll (xs.map e)) ≤ n
    exact Nat.max_le.mpr ⟨g.dep x, g.depAll xs⟩
theorem Good.eqvAll (g : Good e n) : ∀ xs ys : List α, PyData.eqvAll (xs.map e) (ys.map e) = decide (xs = ys)
  | [], [] => rfl
  | [], _ :: _ => rfl
  | _ :: _, [] => rfl
  | x :: xs, y :: ys => by
    show (PyData.eqv (e x) (e y) && PyData.eqvAll (xs.map e) (ys.map e)) = _
    rw [g.eqvAll xs ys, g.eqv, Bool.eq_iff_iff]
    simp
theorem goodL (g : Good e n) : Good (eL e) (n + 1) := ⟨fun xs => g.layAll xs, fun xs => by
  show PyData.depthAll (xs.map e) + 1 ≤ n + 1
  have := g.depAll xs
  omega, fun xs ys => g.eqvAll xs ys⟩
theorem goodT (g : Good e n) : Good (eT e) (n + 1) := ⟨fun xs => g.layAll xs, fun xs => by
  show PyData.depthAll (xs.map e) + 1 ≤ n + 1
  have := g.depAll xs
  omega, fun xs ys => g.eqvAll xs ys⟩
theorem goodP (g : Good e n) (k : Good f n) : Good (eP e f) (n + 1) := ⟨fun p => by
    show (PyData.canLay0 (e p.1) && (PyData.canLay0 (f p.2) && true)) = true
    rw [g.lay, k.lay]
    rfl, fun p => by
    show max (PyData.depth (e p.1)) (max (PyData.depth (f p.2)) 0) + 1 ≤ n + 1
    have h1 := g.dep p.1
    have h2 := k.dep p.2
    have : max (PyData.depth (e p.1)) (max (PyData.depth (f p.2)) 0) ≤ n := Nat.max_le.mpr ⟨h1, Nat.max_le.mpr ⟨h2, Nat.zero_le _⟩⟩
    omega, fun p q => by
    show (PyData.eqv (e p.1) (e q.1) && (PyData.eqv (f p.2) (f q.2) && true)) = _
    rw [g.eqv, k.eqv, Bool.eq_iff_iff]
    obtain ⟨a, b⟩ := p
    obtain ⟨c, d⟩ := q
    simp⟩
theorem Good.shaped (g : Good e n) (h : n ≤ 64) (x : α) : SeqAt.shaped (e x) = true := by
  unfold SeqAt.shaped
  rw [g.lay x, decide_eq_true (Nat.le_trans (g.dep x) h)]
  rfl
/-- two things compared -/
theorem eqE {K : PySem.W.Frag} {H : Hp} {v u : V} {x y : α} {Q : VK} (g : Good e n) (hn : n ≤ 64) (h1 : Dp K H v (e x)) (h2 : Dp K H u (e y)) (q : Q (.bl (decide (x = y))) H) : rEqD K v u H Q :=
  ⟨_, _, h1, h2, g.shaped hn x, g.shaped hn y, by rw [g.eqv]; exact q⟩
theorem neE {K : PySem.W.Frag} {H : Hp} {v u : V} {x y : α} {Q : VK} (g : Good e n) (hn : n ≤ 64) (h1 : Dp K H v (e x)) (h2 : Dp K H u (e y)) (q : Q (.bl (!decide (x = y))) H) : rNeD K v u H Q :=
  ⟨_, _, h1, h2, g.shaped hn x, g.shaped hn y, by rw [g.eqv]; exact q⟩
end
theorem dpI {K : PySem.W.Frag} {H : Hp} : ∀ (ns : List Int), DpAll K H (ns.map V.int) (ns.map PyData.int)
  | [] => .nil
  | n :: ns => .cons (.int n) (dpI ns)
/-- a list of ints -/
theorem dpL {K : PySem.W.Frag} {H : Hp} {a : Addr} {ns : List Int} (h : SqL K H a (ns.map V.int)) : Dp K H (.ref a) (eL PyData.int ns) := .lst h (dpI ns)
theorem dpT {K : PySem.W.Frag} {H : Hp} {a : Addr} {ns : List Int} (h : SqT K H a (ns.map V.int)) : Dp K H (.ref a) (eT PyData.int ns) := .tup h (dpI ns)
/-- lists of ints compared -/
theorem eqI_ {K : PySem.W.Frag} {H : Hp} {a b : Addr} {xs ys : List Int} {Q : VK} (h1 : SqL K H a (xs.map V.int)) (h2 : SqL K H b (ys.map V.int)) (q : Q (.bl (decide (xs = ys))) H) : rEqD K (.ref a) (.ref b) H Q := eqE (goodL goodI) (by decide) (dpL h1) (dpL h2) q
theorem neI_ {K : PySem.W.Frag} {H : Hp} {a b : Addr} {xs ys : List Int} {Q : VK} (h1 : SqL K H a (xs.map V.int)) (h2 : SqL K H b (ys.map V.int)) (q : Q (.bl (!decide (xs = ys))) H) : rNeD K (.ref a) (.ref b) H Q := neE (goodL goodI) (by decide) (dpL h1) (dpL h2) q
/-! ### new objects, the heap behind them by a letter -/
section
variable {X : Cx} {es : List Expr} {t : TA} {pos : Pos}
theorem pe_weak {e : Expr} {t t' : TE} (h : PE X e t) (w : ∀ σ H Q, t' σ H Q → t σ H Q) : PE X e t' := ⟨fun pins s σ H Q I q => h.run pins s σ H Q I (w σ H Q q)⟩
def tCutA (t : TA) : TA := fun σ H Q => ∃ M : List V → Hp → Prop, t σ H M ∧ ∀ vs H', M vs H' → Q vs H'
theorem pa_cut (h : PA X es t) : PA X es (tCutA t) := ⟨fun pos pins s σ H Q I ⟨M, hm, hq⟩ => thn (h.run pos pins s σ H M I hm) fun us s1 ⟨xs, H1, I1, r, q⟩ => ⟨xs, H1, I1, r, hq xs H1 q⟩⟩
/-- a new thing o, at any free place of any heap that keeps H -/
def New (o : HO) (H : Hp) (Q : VK) : Prop := ∀ p H', H p = none → Ex H H' → H' p = some o → Q (.ref p) H'
theorem New.go {o : HO} {H : Hp} {Q : VK} (k : New o H Q) (p : Addr) (hp : H p = none) : Q (.ref p) (upd H p o) := k p _ hp (Evl.Ex.new hp) upd_same
def tLstG (t : TA) : TE := fun σ H Q => t σ H fun xs H1 => xs.length ≤ sizeLine ∧ New (.lst xs) H1 Q
def tTupG (t : TA) : TE := fun σ H Q => t σ H fun xs H1 => xs.length ≤ sizeLine ∧ New (.tup xs) H1 Q
theorem pe_lstG (h : PA X es t) : PE X (.List es pos) (tLstG t) := pe_weak (pe_lst (pa_cut h)) fun σ H Q q => ⟨_, q, fun _ _ z => ⟨z.1, fun p hp => z.2.go p hp⟩⟩
theorem pe_tupG {x1} (h : PA X es t) : PE X (.Tuple es x1 pos) (tTupG t) := pe_weak (pe_tup (pa_cut h)) fun σ H Q q => ⟨_, q, fun _ _ z => ⟨z.1, fun p hp => z.2.go p hp⟩⟩
def rCatG : R2 := fun x y H Q => ∃ l b xs zs, x = .ref l ∧ y = .ref b ∧ H l = some (.lst xs) ∧ H b = some (.lst zs) ∧ xs.length + zs.length ≤ sizeLine ∧ New (.lst (xs ++ zs)) H Q
theorem op_catG : OpR X (binaryOp .Add) rCatG := fun pins s σ H x y v u Q I rx ry ⟨l, b, xs, zs, h1, h2, h3, h4, h5, k⟩ => op_cat pins s σ H x y v u Q I rx ry ⟨l, b, xs, zs, h1, h2, h3, h4, h5, fun p hp => k.go p hp⟩
def rRepG : R2 := fun x y H Q => ∃ l k xs, x = .ref l ∧ y = .int k ∧ H l = some (.lst xs) ∧ -(2 ^ 63) ≤ k ∧ k < 2 ^ 63 ∧ xs.length * k.toNat ≤ sizeLine ∧ New (.lst (List.replicate k.toNat xs).flatten) H Q
theorem op_repG : OpR X (binaryOp .Mult) rRepG := fun pins s σ H x y v u Q I rx ry ⟨l, k, xs, h1, h2, h3, h4, h5, h6, z⟩ => op_rep pins s σ H x y v u Q I rx ry ⟨l, k, xs, h1, h2, h3, h4, h5, h6, fun p hp => z.go p hp⟩
def rSlG (K : PySem.W.Frag) : V → Option Int → Option Int → Hp → VK → Prop := fun x lo hi H Q => ∃ a xs, x = .ref a ∧ SqL K H a xs ∧ New (.lst (cutV xs lo hi)) H Q
theorem sl_listG : SlR X (rSlG X.K) := fun pins s σ H x v vl vu lo hi sl Q I rx hs pl pu ⟨a, xs, h1, h2, k⟩ => sl_list pins s σ H x v vl vu lo hi sl Q I rx hs pl pu ⟨a, xs, h1, h2, fun p hp => k.go p hp⟩
def rListG (K : PySem.W.Frag) : List V → Hp → VK → Prop := fun xs H Q => ∃ p ys, xs = [.ref p] ∧ (SqL K H p ys ∨ SqT K H p ys) ∧ New (.lst ys) H Q
theorem call_listG : CallR X (.type "list") (rListG X.K) := fun pins s σ H xs us Q I r ⟨p, ys, h1, h2, k⟩ => call_list_of pins s σ H xs us Q I r ⟨p, ys, h1, h2, fun p hp => k.go p hp⟩
def rTupleG (K : PySem.W.Frag) : List V → Hp → VK → Prop := fun xs H Q => ∃ p ys, xs = [.ref p] ∧ SqL K H p ys ∧ New (.tup ys) H Q
theorem call_tupleG : CallR X (.type "tuple") (rTupleG X.K) := fun pins s σ H xs us Q I r ⟨p, ys, h1, h2, k⟩ => call_tuple_of pins s σ H xs us Q I r ⟨p, ys, h1, .inl ⟨h2, fun p hp => k.go p hp⟩⟩
def rSortedG (K : PySem.W.Frag) : List V → Hp → VK → Prop := fun vs H Q => ∃ (a : Addr) (ns : List Int), vs = [V.ref a] ∧ SqL K H a (ns.map V.int) ∧ ∀ ns' : List Int, ns'.Perm ns → ns'.Pairwise (· ≤ ·) → New (.lst (ns'.map V.int)) H Q
theorem cr_sortedG : CallR X (.builtin "sorted") (rSortedG X.K) := fun pins s σ H xs us Q I r ⟨a, ns, h1, h2, k⟩ => cr_sortedI pins s σ H xs us Q I r ⟨a, ns, h1, h2, fun ns' p h3 h4 hp => (k ns' h3 h4).go p hp⟩
end
/-! ### slices -/
theorem cut_to (xs : List V) (n : Nat) : cutV xs none (some (n : Int)) = xs.take n := by
  unfold cutV
  rw [HT.sIx_none, HT.sIx_nat, List.drop_zero, Nat.sub_zero]
  by_cases h : n ≤ xs.length
  · rw [Nat.min_eq_left h]
  · rw [Nat.min_eq_right (by omega), List.take_of_length_le (Nat.le_refl _), List.take_of_length_le (by omega)]
theorem cut_from (xs : List V) (n : Nat) : cutV xs (some (n : Int)) none = xs.drop n := by
  unfold cutV
  rw [HT.sIx_none, HT.sIx_nat]
  by_cases h : n ≤ xs.length
  · rw [Nat.min_eq_left h, List.take_of_length_le (by rw [List.length_drop]; exact Nat.le_refl _)]
  · rw [Nat.min_eq_right (by omega), List.drop_eq_nil_of_le (Nat.le_refl _), List.drop_eq_nil_of_le (by omega)]
    exact List.take_nil
/-! ### ways that come together -/
section
variable {X : Cx}
def tCutE (te : TE) : TE := fun σ H Q => ∃ M : V → Hp → Prop, te σ H M ∧ ∀ v H', M v H' → Q v H'
def tCutT (tt : TT) : TT := fun σ H Q => ∃ M : Bool → Hp → Prop, tt σ H M ∧ ∀ b H', M b H' → Q b H'
def tCutS (t : TS) : TS := fun D σ H => ∃ M : L2.St → Hp → Prop, t { D with nx := M } σ H ∧ ∀ σ' H', M σ' H' → D.nx σ' H'
theorem pe_cut {e : Expr} {te : TE} (h : PE X e te) : PE X e (tCutE te) := ⟨fun pins s σ H Q I ⟨M, hm, hq⟩ => thn (h.run pins s σ H M I hm) fun v s1 ⟨x, H1, I1, r, q⟩ => ⟨x, H1, I1, r, hq x H1 q⟩⟩
theorem pt_cut {e : Expr} {tt : TT} (h : PT X e tt) : PT X e (tCutT tt) := ⟨fun pins s σ H Q I ⟨M, hm, hq⟩ => thn (h.run pins s σ H M I hm) fun b s1 ⟨H1, I1, q⟩ => ⟨H1, I1, hq b H1 q⟩⟩
theorem ps_cut {st : Stmt} {t : TS} (h : PS X st t) : PS X st (tCutS t) := by
  refine ⟨fun pins s σ H D I ⟨M, hm, hq⟩ => thn (h.run pins s σ H { D with nx := M } I hm) fun f s1 q => ?_⟩
  cases f with
  | next =>
    obtain ⟨σ', H', I', q⟩ := q
    exact ⟨σ', H', I', hq σ' H' q⟩
  | ret v => exact q
  | brk => exact q
  | cont => exact q
end
theorem ifF {c : Bool} {A B : Prop} (h : c = false) (k : B) : if c = true then A else B := by
  rw [h]
  exact iteF k
theorem ifT {c : Bool} {A B : Prop} (h : c = true) (k : A) : if c = true then A else B := by
  rw [h]
  exact iteT k
theorem ifB {c : Bool} {A B : Prop} (h1 : c = true → A) (h2 : c = false → B) : if c = true then A else B := by
  cases c with
  | true => exact iteT (h1 rfl)
  | false => exact iteF (h2 rfl)
/-! ### comprehensions without tests, the element without a trace -/
theorem lc_mapL {K : PySem.W.Frag} {a : Addr} {xs ys : List V} {j : Nat} {te : TE} {vs : List Nat} {σ : L2.St} {H1 : Hp} {D : Addr} {Qd : Hp → Prop} (hx : SqL K H1 a xs) (hD : H1 D = none) (hl : ys.length = xs.length) (hz : xs.length ≤ sizeLine)
    (hw : ∀ x, wipe ((wipe σ vs).set j (some x)) vs = wipe σ vs)
    (he : ∀ (i : Nat) x y H', Ex H1 H' → xs[i]? = some x → ys[i]? = some y → ∀ R : VK, (∀ H2, Ex H' H2 → R y H2) → te ((wipe σ vs).set j (some x)) H' R)
    (k : ∀ H', Ex H1 H' → H' D = some (.lst ys) → Qd H') :
    ∃ W : Nat → Nat → Hp → Prop, (∃ m, W 0 m (upd H1 D (.lst []))) ∧ ∀ i m H, W i m H →
      ((Itl K a).stop i H ∧ Qd H) ∨ ((Itl K a).go i H ∧ ∃ Nx : Hp → Prop, (∀ H', Nx H' → ∃ m', m' < m ∧ W (i + 1) m' H') ∧ ∀ x H', (Itl K a).yld i H x H' → gName j x (wipe σ vs) H' fun σ2 H2 => wipe σ2 vs = wipe σ vs ∧ tYes σ2 H2 fun b H3 =>
        if b = true then te σ2 H3 fun y H4 => ∃ acc, H4 D = some (.lst acc) ∧ acc.length < sizeLine ∧ Nx (upd H4 D (.lst (acc ++ [y]))) else Nx H3) := by
  refine lc_list (xs := xs) (fun i H' => Ex H1 H' ∧ H' D = some (.lst (ys.take i))) ⟨Evl.Ex.new hD, upd_same⟩ (fun i H' _ p => Evl.ex_l p.1 hx) (fun i x H' hi p => ?_) (fun H' p => k H' p.1 ?_)
  · have hi' : i < xs.length := (List.getElem?_eq_some_iff.mp hi).1
    have hy : ys[i]? = some (ys[i]'(by omega)) := List.getElem?_eq_getElem (by omega)
    refine ⟨hw x, ?_⟩
    show te ((wipe σ vs).set j (some x)) H' _
    refine he i x _ H' p.1 hi hy _ fun H2 e2 => ⟨ys.take i, e2 _ _ p.2, ?_, ?_⟩
    · rw [List.length_take]
      omega
    · refine ⟨Evl.Ex.mut (p.1.trans e2) hD, ?_⟩
      rw [upd_same, List.take_add_one, hy]
      rfl
  · have := p.2
    rw [List.take_of_length_le (by omega)] at this
    exact this
end My
set_option Elab.async false
set_option linter.all false
set_option maxRecDepth 100000
set_option maxHeartbeats 4000000
/-! Own errors whose __init__ says super().__init__("..") and keeps one field. -/
namespace My
open PySem PySem.Spec PyProof.Rows L2 NdefX
/-! ### the built-in __init__ bound to a new error, called -/
section
variable {prog : Program} {w : World} {A : Around} {E : Value → Shared → Prop} {h : Heap} {g : Array GenState} {d : Drawn} {t : Nat} {os : OsState}
variable {nm q : Str} {C N : Addr} {bs bm : List Value} {hdct : Bool} {sn : List Str} {sub : List Value} {ab : Bool} {col : Option Bool} {dd : Option Addr} {k0 k1 k2 k3 k5 : Option Value}
theorem call_mwV {u e t0 : Addr} {rest : List Value} {Q : Value → Shared → Prop}
    (hC : h.get? C = some (excClassObj nm q C N bs bm hdct sn sub ab col dd k0 k1 k2 k3 k5 "ValueError.__new__")) (he : h.get? e = some (HandSPX.excO C t0)) (hu : h.get? u = some (PySem.W.kxs_mw "ValueError.__init__" e)) (hrest : rest.length ≤ sizeLine)
    (hq : ∀ h' t1, (∀ b o, b ≠ e → h.get? b = some o → h'.get? b = some o) → h'.get? e = some (HandSPX.excO C t1) → Q .none ⟨h', g, d, t, os⟩) :
    wpAny (model prog w) A (call (.ref u) rest) Q E ⟨h, g, d, t, os⟩ := by
  refine wpAny_call (codeAny_of_tree ?_)
  show wpAny _ A.in1 (callAny (.ref u) ⟨rest, []⟩) _ _ _
  simp only [callAny]
  refine wpAny_bind (wpAny_load hu ?_)
  simp only [PySem.W.kxs_mw, show (Value.type "method-wrapper" == Value.type "method" || Value.type "method-wrapper" == Value.type "builtin_function_or_method" || Value.type "method-wrapper" == Value.type "method-wrapper") = true by decide, if_true]
  refine W.KFB.if_so (by decide) ?_
  refine wpAny_bind (ESX.check_bound F.excBase_ValueError hC he rfl ?_)
  refine wpAny_bind (wpAny_pure (wpAny_pure ?_))
  refine ⟨Code.quiet_builtin _ (by decide +kernel), codeAny_builtin F.excBase_ValueError.initEntry ?_⟩
  rw [Around.under_plainId F.excBase_ValueError.init.plain _]
  wp_walk
  refine hq _ h.objs.size (fun b o hb ho => ?_) ?_
  · rw [Heap.get?_update_other _ _ (Ne.symm hb)]
    exact Heap.get?_push_of_some _ ho
  · rw [Heap.get?_update_self _ (Heap.get?_push_of_some _ he) rfl]
    rfl
end
/-- what the written part says of the __init__ and of the class D that holds it -/
structure InitT (P : Program) (K : PySem.W.Frag) (mg : Str → Option Value) (st : Stmt) (qu : Str) (fI cc cda D : Addr) (fd : FuncData) : Prop where
  ex : ∃ (oc : Value) (od : Option Addr) (kV doc pm : Value) (an : Option Addr) (ct : Value) (osl : Array (Option Value)),
    fd = PySem.W.fnX "__init__" qu (defArgs st) (defBody st) (defScope st) [("__class__", cc)] .none kV doc pm an (.ref cda) ct ∧ K.lookup fI = some ⟨oc, od, .func fd, osl⟩
  code : PySem.W.codeIn K (.ref cda) qu = true
  cell : ∃ cl cld csl, K.lookup cc = some ⟨cl, cld, .cell (some (.ref D)), csl⟩
  file : ∃ (ccl : Value) (cdd : Option Addr) (ccs : Array (Option Value)) (vs : Array Value) (fl : Str) (tf : Tok), K.lookup cda = some ⟨ccl, cdd, .fields vs, ccs⟩ ∧ vs[2]? = some (.str fl tf) ∧ ((P.main.file : Str) == fl) = true
  cls : ∃ cdD, PySem.W.clsIn K D = some cdD
  sup : mg "super" = none
  top : (P.main.scope.names.lookup ("super" : Str)).isSome = false
  opq : PySem.W.nsIn K cStatics "thirdparty.any" = some none
/-- what it says of a class C of errors that has this __init__ -/
structure ErrC (K : PySem.W.Frag) (fI D C : Addr) : Prop where
  oex : OexC K C
  init : PySem.W.findIn K (.ref C) "__init__" = some (some (.ref fI))
  tI : PySem.W.typeIn K (.ref fI) = some (.type "function")
  nov : PySem.W.findIn K (.ref C) "value" = some none
  mro : PySem.W.mroIn K C (.ref D) = some true
  sin : PySem.W.ks_superIn K C D "__init__" = some (some (.builtin "ValueError.__init__"))
  sub : PySem.W.subIn K (.ref C) (.type "ValueError") = some true
  xf : XfC K C
/-- the first statement, super().__init__("..") -/
abbrev sSuper (p0 p1 p2 p3 p4 p5 : Pos) (x : Str) (j : Nat) : Stmt := .Expr (.Call (.Attribute (.Call (.Name "super" p0) [] [] p1) "__init__" p2) [.Constant (.str x) j p3] [] p4) p5
abbrev sKeep (p0 p1 p2 p3 : Pos) : Stmt := .Assign [.Attribute (.Name "self" p0) "value" p1] (.Name "value" p2) p3
/-- the promise: the new error at a has, behind it, its dict with the value -/
def spErr (K : PySem.W.Frag) (fI D : Addr) : Sp := fun vs H Q _ => ∃ (a C : Addr) (v : V), vs = [.ref a, v] ∧ ErrC K fI D C ∧ H a = some (exo a C none) ∧
  ∀ dx, H dx = none → dx ≠ a → Q .non (upd (upd H dx (exd dx [("value", v)])) a (exo a C (some dx)))
section
variable {P : Program} {w : World} {K : PySem.W.Frag} {mg : Str → Option Value} {base : Heap} {st : Stmt} {qu : Str} {fI cc cda D : Addr} {fd : FuncData}
theorem super_step {A : Around} {outer : List Env} {s0 : Shared} {H0 : Hp} {E0' : XK} {F : NF} {body : List Stmt} {p0 p1 p2 p3 p4 p5 : Pos} {x : Str} {j : Nat} {a C : Addr} {v : V} {H : Hp} {s : Shared} {ws : List (Option V)} {Q : Flow → Shared → Prop} {N : List Str}
    (T : InitT P K mg st qu fI cc cda D fd) (hF : F = ⟨"__init__", qu, defArgs st, defBody st, defScope st, [("__class__", cc)], cda⟩) (TC : ErrC K fI D C)
    (hks : (defScope st).names.lookup ("super" : Str) = some .globalImplicit) (hkc : (defScope st).names.lookup ("__class__" : Str) = some .free) (hka : (defScope st).names.lookup ("self" : Str) = some .local) (hk : (defScope st).kind = .function)
    (hp : ((defArgs st).posonlyargs ++ (defArgs st).args).head?.map (·.arg) = some ("self" : Str)) (hN : N[0]? = some ("self" : Str))
    {pl : Sem Bool} (hev : ∀ env : Env, eval (.Call (.Attribute (.Call (.Name "super" p0) [] [] p1) "__init__" p2) [.Constant (.str x) j p3] [] p4) env = (do
      let ov ← attributeBase (.Call (.Name "super" p0) [] [] p1) "__init__" env (eval (.Call (.Name "super" p0) [] [] p1) env)
      standAt p2.atName
      let (f, first) ← holding [ov] (getMethod ov "__init__" pl)
      callWith p4 f first (backTo p4 (starEach [.Constant (.str x) j p3] env)) []))
    (I : Inv (ncx CX0 P w K mg base N F fI A outer s0 H0 E0') [] (some (.ref a) :: some v :: ws) H s) (ha : H a = some (exo a C none))
    (h : ∀ s', Inv (ncx CX0 P w K mg base N F fI A outer s0 H0 E0') [] (some (.ref a) :: some v :: ws) H s' → Q .next s') :
    _root_.PySem.wpAt (model P w) (ncx CX0 P w K mg base N F fI A outer s0 H0 E0').A (.func body (ncx CX0 P w K mg base N F fI A outer s0 H0 E0').env) (exec (sSuper p0 p1 p2 p3 p4 p5 x j) (ncx CX0 P w K mg base N F fI A outer s0 H0 E0').env) Q (ncx CX0 P w K mg base N F fI A outer s0 H0 E0').xe s := by
  subst hF
  obtain ⟨oc, od, kV, doc, pm, an, ct, osl, efd, lk⟩ := T.ex
  obtain ⟨cl, cld, csl, hcell⟩ := T.cell
  obtain ⟨ccl, cdd, ccs, vs, fl, tf, hcode, hvs, hfile⟩ := T.file
  obtain ⟨cdD, hD⟩ := T.cls
  obtain ⟨nm, q, N', bs, bm, sn, sub, ab, col, dd, k0, k1, k2, k3, k5, hC, hbm⟩ := TC.oex.cls
  have hcl : PySem.W.clsIn K C = some { name := nm, bases := bs, mro := .ref C :: bm, ns := N', qualname := q, hasDict := true, slotNames := sn, subclasses := sub, abstract := ab, collection := col, hasDel := false } := by unfold PySem.W.clsIn; rw [hC] <;> rfl
  have KX : K.In s.heap := I.kIn
  obtain ⟨ar, har, harg⟩ : ∃ ar, ((defArgs st).posonlyargs ++ (defArgs st).args).head? = some ar ∧ ar.arg = ("self" : Str) := by
    cases e : ((defArgs st).posonlyargs ++ (defArgs st).args).head? with
    | none => rw [e] at hp; cases hp
    | some ar => rw [e] at hp; exact ⟨ar, rfl, Option.some.inj hp⟩
  obtain ⟨oD, hD1, hD2⟩ : ∃ oD, s.heap.get? D = some oD ∧ oD.data = .cls cdD := by
    unfold PySem.W.clsIn at hD
    split at hD
    · rename_i c d cd' sl ho
      cases hD
      exact ⟨_, KX _ _ ho, rfl⟩
    · cases hD
  obtain ⟨t1, hoe⟩ := exo_at I.hok ha
  -- the name self
  obtain ⟨m, hns, hl⟩ := id I.loc
  obtain ⟨u0, ru, lu⟩ := hl 0 "self" (.ref a) hN rfl (.inl hka)
  obtain rfl : u0 = Value.ref a := ru
  have hself : m "self" = some (.ref a) := by
    rcases lu with ⟨_, q⟩ | ⟨q, _⟩
    · exact q
    · have e : (defScope st).names.lookup ("self" : Str) = some .cell ∨ (defScope st).names.lookup ("self" : Str) = some .free := q
      rw [hka] at e
      rcases e with z | z <;> cases z
  obtain ⟨mb, hb1, hb2⟩ := I.mod.blt
  refine ks_wpAt_Expr_any (ks_wpAt_MethodCall ?_ (hev _)) (I.quiet) rfl
  refine ks_wpAt_super_base hks hkc (by decide) rfl (KX _ _ lk) (by rw [efd]) (ar := ar) har rfl (KX _ _ hcode) rfl hvs hfile T.top ?_
  refine PySem.W.ks_loadName_global hk hks (Calls.loadGlobal_builtin (I.mod.glob.keeps I.bk) T.sup (hb1.keeps I.bk) ((hb2 _ (by decide)).trans (by decide +kernel)) ⟨rfl, ?_⟩)
  refine wpAny_loadName_free hk hkc rfl ⟨_, KX _ _ hcell, rfl⟩ ?_
  rw [harg]
  refine wpAny_loadName_local hk hka hns hself ?_
  refine ks_wpAny_isType_cls hD1 hD2 ⟨rfl, ?_⟩
  obtain ⟨hp0, g, d, t, os⟩ := s
  refine ks_wpAny_call_super hD1 hD2 hoe rfl (fun c e => by cases e) (PySem.W.looks_mroIn KX TC.mro) (fun h1 e1 k1' => ?_)
  have I1 : Inv (ncx CX0 P w K mg base N ⟨"__init__", qu, defArgs st, defBody st, defScope st, [("__class__", cc)], cda⟩ fI A outer s0 H0 E0') [] (some (.ref a) :: some v :: ws) H ⟨h1, g, d, t, os⟩ := I.kept (h' := h1) (t' := t) k1'
  have KX1 : K.In h1 := I1.kIn
  have hoe1 := k1' _ _ hoe
  have hnaC : a ≠ C := by
    rintro rfl
    have z := KX _ _ hC
    rw [hoe] at z
    cases z
  have hI1 : PySem.W.Looks (model P w) h1 (isInstance (.ref a) (.type "ValueError")) true := (show PySem.W.InstAt h1 a _ C none from ⟨hoe1, rfl, rfl, trivial⟩).type.andThen (PySem.W.looks_subIn KX1 TC.sub)
  have hsin := TC.sin
  unfold PySem.W.ks_superIn at hsin
  rw [hcl, Option.bind_some] at hsin
  refine PySem.W.kxs_getMethod PySem.W.kxs_ValueError e1 (PySem.W.looks_opaque KX1 T.opq) (l₀ := .ref C :: bm) ?_ rfl KX1 hsin hI1 hnaC (by decide) ?_
  · exact fun A Q E s k q => wpAny_bind ((PySem.W.looks_clsIn KX1 hcl) A _ E s k (wpAny_pure q))
  have I2 : Inv (ncx CX0 P w K mg base N ⟨"__init__", qu, defArgs st, defBody st, defScope st, [("__class__", cc)], cda⟩ fI A outer s0 H0 E0') [] (some (.ref a) :: some v :: ws) H ⟨h1.push (PySem.W.kxs_mw "ValueError.__init__" a), g, d, t + 1, os⟩ := I1.kept (t' := t + 1) fun b o e => Heap.get?_push_of_some _ e
  have hu2 : (h1.push (PySem.W.kxs_mw "ValueError.__init__" a)).get? h1.objs.size = some (PySem.W.kxs_mw "ValueError.__init__" a) := Heap.get?_push_at rfl rfl
  have hoe2 : (h1.push (PySem.W.kxs_mw "ValueError.__init__" a)).get? a = _ := Heap.get?_push_of_some _ hoe1
  show wpAny _ _ (callWith p4 (.ref h1.objs.size) [] (backTo p4 (starEach [.Constant (.str x) j p3] _)) []) _ _ _
  refine PySem.W.kxs_callWith (i := "ValueError.__init__") (x := a) rfl (PySem.Calls.evalArgs_plain ?_)
  refine args_cons (Calls.Constant_str (args_nil ⟨hu2, ?_⟩)) rfl
  have I3 := I2.tok (t + 1 + 1)
  refine call_mwV (KX1.keeps (fun b o e => Heap.get?_push_of_some _ e) _ _ hC) hoe2 hu2 (by show 1 ≤ sizeLine; decide) (fun h' t' k he => ?_)
  have J := I3.write (t' := t + 1 + 1) (x := a) (e := a) (o := exo a C none) (by rw [ha]; exact True.intro) (.inl rfl) k ⟨_, he⟩ (exo_ok he)
  have eu : upd H a (exo a C none) = H := by
    funext b
    by_cases hb : b = a
    · rw [hb, upd_same, ha]
    · rw [upd_ne hb]
  rw [eu] at J
  exact h _ J
theorem ok_err {p0 p1 p2 p3 p4 p5 q0 q1 q2 q3 : Pos} {x : Str} {j : Nat} {pl : Sem Bool} (T : InitT P K mg st qu fI cc cda D fd) (S : NScope ["self", "value", "__class__"] ["self", "value"] ["__class__"] (defScope st))
    (hbd : defBody st = [sSuper p0 p1 p2 p3 p4 p5 x j, sKeep q0 q1 q2 q3]) (hks : (defScope st).names.lookup ("super" : Str) = some .globalImplicit)
    (hp : ((defArgs st).posonlyargs ++ (defArgs st).args).head?.map (·.arg) = some ("self" : Str))
    (hev : ∀ env : Env, eval (.Call (.Attribute (.Call (.Name "super" p0) [] [] p1) "__init__" p2) [.Constant (.str x) j p3] [] p4) env = (do
      let ov ← attributeBase (.Call (.Name "super" p0) [] [] p1) "__init__" env (eval (.Call (.Name "super" p0) [] [] p1) env)
      standAt p2.atName
      let (f, first) ← holding [ov] (getMethod ov "__init__" pl)
      callWith p4 f first (backTo p4 (starEach [.Constant (.str x) j p3] env)) [])) : FnOk P w K mg base CX0 1 fI fd ["self", "value"] (spErr K fI D) := by
  refine ⟨fun vs H Q E h => by obtain ⟨a, C, v, rfl, _⟩ := h; rfl, fun A outer s H args us vs Q E hr e0 hb r hsp => ?_⟩
  have KX : K.In s.heap := e0.mod.kin.keeps fun b o e => (e0.bs b o e).1
  have lim : s.heap.NoLimit := e0.mod.nolimit.keeps fun b o e => (e0.bs b o e).1
  obtain ⟨oc, od, kV, doc, pm, an, ct, osl, efd, lk⟩ := id T.ex
  obtain ⟨cl, cld, csl, hcell⟩ := T.cell
  obtain ⟨a, C, v, ev, TC, ha, k⟩ := hsp
  subst ev
  have hl : [V.ref a, v].length = (["self", "value"] : List Str).length := rfl
  have hC : CellsAt [(("__class__" : Str), cc)] ["__class__"] [some (.ref D)] s.heap H := by
    have hb := e0.mod.kin _ _ hcell
    have hs := e0.bs _ _ hb
    have key : ∀ {y : Str} {c : Addr}, ([(("__class__" : Str), cc)] : List (Str × Addr)).lookup y = some c → c = cc ∧ y = "__class__" := fun {y c} e => by
      have z := PySem.mem_of_lookup e
      have z' : (y, c) = (("__class__" : Str), cc) := by simpa using z
      exact ⟨congrArg Prod.snd z', congrArg Prod.fst z'⟩
    refine ⟨rfl, fun y c e => ?_, fun y z c e1 e2 => (key e1).2.trans (key e2).2.symm, fun i y e => ?_⟩
    · obtain ⟨rfl, rfl⟩ := key e
      exact ⟨hs.2, _, _, hs.1, rfl⟩
    · cases i with
      | zero =>
        have e' : ("__class__" : Str) = y := Option.some.inj e
        subst e'
        refine ⟨cc, by simp [List.lookup], fun u hu => ?_⟩
        have hu' : some (some (V.ref D)) = some (some u) := hu
        cases hu'
        exact ⟨.ref D, rfl, _, hs.1, rfl⟩
      | succ i => simp at e
  have hfd : (K.lookup fI) = some ⟨oc, od, .func (PySem.W.fnX "__init__" qu (defArgs st) (defBody st) (defScope st) [("__class__", cc)] .none kV doc pm an (.ref cda) ct), osl⟩ := by rw [← efd]; exact lk
  refine codeAny_call_function hr.depth (KX _ _ hfd) rfl S.co S.gen rfl (PySem.W.codeRec_of KX T.code) ?_
  have hb' := hb
  rw [efd] at hb'
  refine hb' _ _ _ _ ?_
  refine wpAny_newFunctionEnv S.nocell (fun ⟨n, _⟩ hy => S.par n (List.of_mem_zip hy).1) (fun h₁ hns hsb => ⟨lim.fresh _ hsb, ?_⟩) S.kind
  have kp : ∀ b o, s.heap.get? b = some o → h₁.get? b = some o := fun b o e => hsb.extBut b o (Nat.ne_of_lt (Heap.lt_size e)) (Heap.get?_push_of_some _ e)
  have I : Inv (ncx CX0 P w K mg base ["self", "value", "__class__"] ⟨"__init__", qu, defArgs st, defBody st, defScope st, [("__class__", cc)], cda⟩ fI A outer s H E) [] (startF ["self", "value", "__class__"] [V.ref a, v] [some (.ref D)]) H { s with heap := h₁, toks := s.toks + ((["self", "value"] : List Str).zip us).length } :=
    inv_startN (F := ⟨"__init__", qu, defArgs st, defBody st, defScope st, [("__class__", cc)], cda⟩) S hr.hd e0 hl r hC hns kp
  refine ks_codeAny_funcAt (env := (ncx CX0 P w K mg base ["self", "value", "__class__"] ⟨"__init__", qu, defArgs st, defBody st, defScope st, [("__class__", cc)], cda⟩ fI A outer s H E).env) (body := defBody st) ?_
  rw [show execs (defBody st) = execs [sSuper p0 p1 p2 p3 p4 p5 x j, sKeep q0 q1 q2 q3] from congrArg execs hbd]
  refine ks_wpAt_execs_cons (super_step T rfl TC hks (S.frk _ (by simp)) (S.par _ (by simp)) S.kind hp rfl hev I ha fun s' I' => ?_)
  have hpst : PSs (ncx CX0 P w K mg base ["self", "value", "__class__"] ⟨"__init__", qu, defArgs st, defBody st, defScope st, [("__class__", cc)], cda⟩ fI A outer s H E) [sKeep q0 q1 q2 q3] _ :=
    pss_one (ps_ost (pe_var (i := 0) rfl (.inl (S.par _ (by simp)))) (pe_var (i := 1) rfl (.inl (S.par _ (by simp)))))
  have run := hpst.run [] s' _ H { nx := fun _ H' => Q .non H', rt := Q } I' ⟨_, rfl, _, rfl, a, C, rfl, TC.oex, TC.nov, .inl ⟨ha, k⟩⟩
  refine wpAt_of_wpAny (wpAny_mono run (fun fl s2 hs => ?_) fun e s2 hs => hs)
  have fin : ∀ {σ' : L2.St} {H' : Hp} {v : V} {u : Value}, Inv (ncx CX0 P w K mg base ["self", "value", "__class__"] ⟨"__init__", qu, defArgs st, defBody st, defScope st, [("__class__", cc)], cda⟩ fI A outer s H E) [] σ' H' s2 → L2.RelV v u → Q v H' → CE outer P w H s Q u s2 :=
    fun {σ' H' v u} J rv q => ⟨v, H', J.os, J.bare, J.base, J.hok, rv, q⟩
  cases fl with
  | ret u =>
    obtain ⟨v, σ', H', J, rv, q⟩ := hs
    exact fin J rv q
  | next =>
    obtain ⟨σ', H', J, q⟩ := hs
    exact fin (v := V.non) (u := Value.none) J rfl q
  | brk =>
    obtain ⟨_, _, _, q⟩ := hs
    exact False.elim q
  | cont =>
    obtain ⟨_, _, _, q⟩ := hs
    exact False.elim q
end
/-! ### raise X(e) -/
/-- an error of the class at C with the value v is what is wanted -/
def Raised (C : Addr) (v : V) (H : Hp) (E : XK) : Prop := ∀ d H', H d = none → Ex H H' → H' d = some (.xd [("value", v)]) → E (.ref C) (some d) H'
def tErr (C : Addr) (ta : TA) : L2.St → Hp → XK → Prop := fun σ H Q => ta σ H fun vs H1 => ∃ v, vs = [v] ∧ Raised C v H1 Q
section
variable {X : Cx} {K : PySem.W.Frag} {fI D C : Addr} {fd : FuncData} {x : Str} {p pos : Pos} {e : Expr} {ta : TA}
theorem pmk_err (F : FnOk X.prog X.w X.K X.mg X.base CX0 1 fI fd ["self", "value"] (spErr X.K fI D)) (hb : Binds X.K fd ["self", "value"] []) (TC : ErrC X.K fI D C) (hr : Room 2 X.A) (hg : Gl X x) (hm : X.mg x = some (.ref C)) (ha : PA X [e] ta)
    (hdb : (x == ("__debug__" : Str)) = false := by decide) (he : starEach [e] X.env = (false, eval e X.env) :: starEach [] X.env := by rfl) (hpl : (backTo pos (starEach [] X.env)).any (·.1) = false := by rfl) :
    PMk X (.Call (.Name x p) [e] [] pos) (tErr C ta) := fun pins s σ H Q I h => by
  refine pmk_oex (sp := spErr X.K fI D) (dvs := []) TC.oex TC.init TC.tI F hr hb .nil pass0 hg hm (pa_cut ha) hdb he hpl pins s σ H Q I ⟨_, h, fun vs H1 z => ?_⟩
  obtain ⟨v, rfl, k⟩ := z
  refine ⟨by show 1 ≤ 1000; decide, fun a hn => ⟨a, C, v, rfl, TC, upd_same, fun dx hdx ne => ⟨rfl, dx, [("value", v)], upd_same, by rw [upd_ne ne, upd_same], ?_, ?_⟩⟩⟩
  · rw [upd_ne ne] at hdx
    exact hdx
  · rw [upd_ne ne] at hdx
    refine k dx _ hdx (fun b o hb => ?_) upd_same
    have n1 := ne_of_none hb hdx
    have n2 := ne_of_none hb hn
    rw [upd_ne n1, del_ne n2, upd_ne n2, upd_ne n1, upd_ne n2]
    exact hb
end
/-- calls of a def that may raise, in one that may -/
theorem passX {P : Program} {w : World} {K : PySem.W.Frag} {mg : Str → Option Value} {base : Heap} {N : List Str} {qual : Str} {scope : Scope} {f : Addr} {cd : Value} {A : Around} {outer : List Env} {s : Shared} {H : Hp} {E : XK} :
    Passes (L2.CX P w) (cxOf (L2.CX P w) P w K mg base N qual scope f cd A outer s H E) E := passes_call (X := cxOf (L2.CX P w) P w K mg base N qual scope f cd A outer s H E) (takes_of rfl rfl rfl rfl) (fun _ _ _ _ h => h)
/-! ### what the head's facts give -/
theorem along_ve (K : PySem.W.Frag) : PySem.W.alongIn K "__init__" PySem.HandSPX.veTail = some (some (.builtin "ValueError.__init__")) := by kernel_rfl
section
variable {K : PySem.W.Frag} {nm q : Str} {C D N : Addr} {bs : List Value} {sn : List Str} {sub : List Value} {ab : Bool} {col : Option Bool} {dd : Option Addr} {k0 k1 k2 k3 k5 : Option Value}
theorem sup_self (h : K.lookup C = some (excClassObj nm q C N bs PySem.HandSPX.veTail true sn sub ab col dd k0 k1 k2 k3 k5 "ValueError.__new__")) (e : C = D) : PySem.W.ks_superIn K C D "__init__" = some (some (.builtin "ValueError.__init__")) := by
  subst e
  unfold PySem.W.ks_superIn PySem.W.clsIn
  rw [h]
  show PySem.W.alongIn K "__init__" (((Value.ref C :: PySem.HandSPX.veTail).dropWhile (· != .ref C)).drop 1) = _
  rw [ESX.drop_own]
  exact along_ve K
theorem sup_child (h : K.lookup C = some (excClassObj nm q C N bs (.ref D :: PySem.HandSPX.veTail) true sn sub ab col dd k0 k1 k2 k3 k5 "ValueError.__new__")) (e : (C == D) = false) : PySem.W.ks_superIn K C D "__init__" = some (some (.builtin "ValueError.__init__")) := by
  unfold PySem.W.ks_superIn PySem.W.clsIn
  rw [h]
  show PySem.W.alongIn K "__init__" (((Value.ref C :: Value.ref D :: PySem.HandSPX.veTail).dropWhile (· != .ref D)).drop 1) = _
  have ne : ((Value.ref C : Value) != .ref D) = true := by
    have : C ≠ D := by simpa using e
    simp [this]
  rw [List.dropWhile_cons, if_pos ne, ESX.drop_own]
  exact along_ve K
theorem exm_gen {S S' : Addr} {b : Bool} (h1 : PySem.W.subIn K (.ref S') (.type "BaseException") = some true) (h2 : PySem.W.isClsIn K S' = true) (h3 : PySem.W.typeIn K (.ref S') = some (.type "type")) (h4 : PySem.W.subIn K (.ref S) (.ref S') = some b) :
    PySem.W.exmOne K (.ref S) (.ref S') = some b := by
  have e1 : (PySem.W.subIn K (.ref S') (.type "BaseException") == some true) = true := by rw [h1] <;> rfl
  have e2 : ((PySem.W.clsIn K S').isSome && PySem.W.typeIn K (.ref S') == some (.type "type")) = true := by
    have h2' : (PySem.W.clsIn K S').isSome = true := h2
    rw [h2', h3] <;> rfl
  show (if (PySem.W.subIn K (.ref S') (.type "BaseException") == some true) = true then (if ((PySem.W.clsIn K S').isSome && PySem.W.typeIn K (.ref S') == some (.type "type")) = true then PySem.W.subIn K (.ref S) (.ref S') else none) else none) = some b
  rw [if_pos e1, if_pos e2]
  exact h4
end
end My
set_option Elab.async false
set_option linter.all false
set_option maxRecDepth 100000
set_option maxHeartbeats 4000000
/-! Further rules: sum of a tuple, len of a range, calls by keywords of a def that may raise. -/
namespace My
open PySem PySem.Spec PyProof.Rows L2
section
variable {prog : Program} {w : World} {A : Around} {E : Value → Shared → Prop} {s : Shared} {l : Addr} {its : List Value} {ns : List Int} {Q : Value → Shared → Prop}
theorem sum_tupRaw (hh : A.handled = none) (hl : s.heap.IsTuple l its.toArray) (hi : IntsAre its ns)
    (h : ∀ h' tk t', (∀ b o, s.heap.get? b = some o → h'.get? b = some o) → Q (.int ns.sum t') { s with heap := h', toks := tk }) : wpAny (model prog w) A (call (.builtin "sum") [.ref l]) Q E s := by
  obtain ⟨xs, e⟩ := hi.allInts.items
  have hn : numsOf (intItems xs).toList = ns := by rw [← e]; exact hi.numsOf
  rw [nums_intItems] at hn
  rw [e] at hl
  have hlt : l < s.heap.objs.size := by obtain ⟨_, e, _⟩ := hl; exact Heap.lt_size e
  refine call_sum_walkG (wpAny_pyIter_tuple hl ?_)
  refine ⟨_, _, _, _, _, _, numAt xs, rfl, Walks.tuple (A := A.in1) hh _ l (Nat.ne_of_lt hlt) (intItems xs), ⟨⟨_, Heap.get?_push_size _ rfl, rfl, rfl⟩, ?_⟩, (fun b hb => ?_), (fun _ _ => intItems_at), fun h' tk t' hk => ?_⟩
  · obtain ⟨o, e1, e2⟩ := hl
    exact ⟨o, Heap.get?_push_of_some _ e1, e2⟩
  · show b < (s.heap.push _).objs.size
    rw [Heap.size_push]
    rcases List.mem_cons.mp hb with rfl | hb
    · exact Nat.lt_succ_self _
    · rcases List.mem_cons.mp hb with rfl | hb
      · exact Nat.lt_succ_of_lt hlt
      · cases hb
  · have := h h' tk t' (fun b o e => hk b o (fun hm => by
      have z : b = s.heap.objs.size := by simpa using hm
      exact Nat.ne_of_lt (Heap.lt_size e) z) (Heap.get?_push_of_some _ e))
    have e2 : preSum (numAt xs) (intItems xs).size = ns.sum := by
      rw [preSum_eq, List.take_of_length_le (by simp [intItems]), hn]
    rw [e2]
    exact this
end
section
variable {X : Cx}
def rSumT (K : PySem.W.Frag) : List V → Hp → VK → Prop := fun vs H Q => ∃ (a : Addr) (ns : List Int), vs = [V.ref a] ∧ SqT K H a (ns.map V.int) ∧ Q (.int ns.sum) H
theorem cr_sumT (hc : X.calm = true) : CallR X (.builtin "sum") (rSumT X.K) := by
  intro pins s σ H vs us Q I r h
  obtain ⟨a, ns, rfl, hs, q⟩ := h
  obtain ⟨its, rv, hl, _⟩ := I.tuple hs
  rw [Vals.ref1 r]
  exact sum_tupRaw (I.ok.hd hc) hl rv.ints fun h' tk t' hk => ⟨.int _, H, I.kept hk, ⟨_, rfl⟩, q⟩
/-- len(range(a, b)) -/
def rLenR : List V → Hp → VK → Prop := fun vs H Q => ∃ (p : Addr) (lo hi : Int), vs = [V.ref p] ∧ H p = some (.rng lo hi) ∧ hi - lo < 2 ^ 62 ∧ Q (.int (if lo < hi then hi - lo else 0)) H
theorem call_lenR : CallR X (.builtin "len") rLenR := by
  intro pins s σ H vs us Q I r h
  obtain ⟨p, lo, hi, rfl, hp, hz, q⟩ := h
  rw [Vals.ref1 r]
  obtain ⟨t, u, v, ho⟩ := (show ObjOk X.prog X.w H s.heap p (.rng lo hi) from I.hok p _ hp)
  have e : ((if lo < hi then hi - lo else 0 : Int)) = (((if lo < hi then hi - lo else 0 : Int)).toNat : Int) := by split <;> omega
  refine call_len_range (n := ((if lo < hi then hi - lo else 0 : Int)).toNat) (a := lo) (b := hi) (c := 1) ho ?_ ?_ ?_
  · rw [rangeSize_one, ← e]
  · rw [← e]
    split <;> omega
  · rw [← e]
    exact ⟨.int _, H, I.tok _, ⟨_, rfl⟩, q⟩
def rRangeG : List V → Hp → VK → Prop := fun vs H Q => ∃ i j, vs = [V.int i, V.int j] ∧ New (.rng i j) H Q
theorem cr_rangeG : CallR X (.type "range") rRangeG := fun pins s σ H xs us Q I r ⟨i, j, h1, k⟩ => cr_range2 pins s σ H xs us Q I r ⟨i, j, h1, fun p hp => k.go p hp⟩
end
section
variable {X : Cx} {CX : CXT} {k : Nat} {f C : Addr} {fd : FuncData} {ps ks : List Str} {sp : Sp} {E : L2.St → XK} {x m : Str} {p pos apos kpos : Pos} {kws : List Keyword} {tk : TA} {g : List Value → List Value → List Value} {gV : List V → List V → List V}
theorem run_fnkS {pins : List (Addr × Obj)} {σ : L2.St} {H : Hp} {s : Shared} {Q : VK} {us ws : List Value} {vs zs : List V} (F : FnOk X.prog X.w X.K X.mg X.base CX k f fd ps sp) (hr : Room k X.A) (hb : KBinds X.K fd ps ks g gV) (hx : PassesAt CX X σ (E σ))
    (I : Inv X pins σ H s) (r : Vals vs us) (rz : Vals zs ws) (h : sp (gV vs zs) H Q (E σ)) : wpAny (model X.prog X.w) X.A (call (.ref f) us (ks.zip ws)) (EP X pins σ Q) X.xe s := by
  have r2 := hb.rel r rz
  have hl : (g us ws).length = ps.length := by rw [← r2.length]; exact F.len _ _ _ _ h
  refine wpAny_call (codeAny_mono (F.run X.A X.stack s H ⟨us, ks.zip ws⟩ (g us ws) (gV vs zs) Q (E σ) hr I.env0 (hb.to s us ws I.kIn hl) r2 h) fun r s' hq => ?_)
  cases r with
  | error e => exact hx pins H s e s' I hq
  | ok fl =>
    cases fl with
    | ret u => exact I.after hq
    | next => exact False.elim hq
    | brk => exact False.elim hq
    | cont => exact False.elim hq
def tCallKS (sp : Sp) (gV : List V → List V → List V) (E : L2.St → XK) (t tk : TA) : TE := fun σ H Q => t σ H fun vs H1 => tk σ H1 fun zs H2 => sp (gV vs zs) H2 Q (E σ)
/-- f(k = v, ..) in a try -/
theorem pe_callK0S (F : FnOk X.prog X.w X.K X.mg X.base CX k f fd ps sp) (hr : Room k X.A) (hg : Gl X x) (hm : X.mg x = some (.ref f)) (hk : PySem.W.keepIn X.K (.ref f) = true) (hb : KBinds X.K fd ps ks g gV) (hx : ∀ σ, PassesAt CX X σ (E σ))
    (hkw : PK X kws tk) (hall : (backToKw pos (keywordEach kws X.env)).all (·.1.isSome) = true := by rfl) (hks : (backToKw pos (keywordEach kws X.env)).filterMap (·.1) = ks := by rfl)
    (hdb : (x == ("__debug__" : Str)) = false := by decide)
    (hpl : ((backTo pos (starEach [] X.env)).any (·.1) || (backToKw pos (keywordEach kws X.env)).any (·.1.isNone)) = false := by rfl) :
    PE X (.Call (.Name x p) [] kws pos) (tCallKS sp gV E tNil tk) := by
  refine ⟨fun pins s σ H Q I h => ?_⟩
  refine wpAny_Call_Name_kw (ld_glob I hg hm ?_ hdb)
  refine PySem.W.callWith_KW0 (h₀ := X.base) I.ok.mod.kin hk hall ?_ hpl
  refine thn (hkw.run pos pins s σ H _ I h) fun ws s2 ⟨zs, H2, I2, rz, q2⟩ => ⟨I2.kIn, ?_⟩
  rw [hks]
  exact run_fnkS (us := []) (vs := []) F hr hb (hx σ) I2 .nil rz q2
variable {e : Expr} {es : List Expr} {t : TA}
/-- f(e, .., k = v, ..) in a try -/
theorem pe_callKS (F : FnOk X.prog X.w X.K X.mg X.base CX k f fd ps sp) (hr : Room k X.A) (hg : Gl X x) (hm : X.mg x = some (.ref f)) (hk : PySem.W.keepIn X.K (.ref f) = true) (hb : KBinds X.K fd ps ks g gV) (hx : ∀ σ, PassesAt CX X σ (E σ))
    (ha : PA X (e :: es) t) (hkw : PK X kws tk) (hall : (backToKw pos (keywordEach kws X.env)).all (·.1.isSome) = true := by rfl) (hks : (backToKw pos (keywordEach kws X.env)).filterMap (·.1) = ks := by rfl)
    (hdb : (x == ("__debug__" : Str)) = false := by decide) (he : starEach (e :: es) X.env = (false, eval e X.env) :: starEach es X.env := by rfl)
    (hpl : ((backTo pos (starEach (e :: es) X.env)).any (·.1) || (backToKw pos (keywordEach kws X.env)).any (·.1.isNone)) = false := by rfl) :
    PE X (.Call (.Name x p) (e :: es) kws pos) (tCallKS sp gV E t tk) := by
  refine ⟨fun pins s σ H Q I h => ?_⟩
  refine wpAny_Call_Name_kw (ld_glob I hg hm ?_ hdb)
  refine PySem.W.callWith_KW (h₀ := X.base) I.ok.mod.kin hk hall (thn (ha.run pos pins s σ H _ I h) fun us s1 ⟨vs, H1, I1, r, q⟩ => ?_) hpl he
  refine thn (hkw.run pos pins s1 σ H1 _ I1 q) fun ws s2 ⟨zs, H2, I2, rz, q2⟩ => ⟨I2.kIn, ?_⟩
  rw [hks]
  exact run_fnkS F hr hb (hx σ) I2 r rz q2
end
/-! rules within a comprehension: what may be kept by name is that of the def -/
section
variable {X : Cx} {K : PySem.W.Frag}
theorem crK {f : Value} {r : PySem.W.Frag → List V → Hp → VK → Prop} (h : X.K = K) (c : CallR X f (r X.K)) : CallR X f (r K) := h ▸ c
theorem ixK {r : PySem.W.Frag → R2} (h : X.K = K) (c : IxR X (r X.K)) : IxR X (r K) := h ▸ c
theorem opK {f : Value → Value → Sem Value} {r : PySem.W.Frag → R2} (h : X.K = K) (c : OpR X f (r X.K)) : OpR X f (r K) := h ▸ c
def rLenSq (K : PySem.W.Frag) : List V → Hp → VK → Prop := fun xs H Q => ∃ p ys, xs = [.ref p] ∧ (SqL K H p ys ∨ SqT K H p ys) ∧ Q (.int ys.length) H
end
end My
set_option Elab.async false
set_option linter.all false
set_option maxRecDepth 100000
set_option maxHeartbeats 4000000
/-! Defs under which repr may be asked: no repr is under way. -/
namespace My
open PySem PySem.Spec PyProof.Rows L2
structure FnOkG (P : Program) (w : World) (K : PySem.W.Frag) (mg : Str → Option Value) (base : Heap) (CX : CXT) (k : Nat) (f : Addr) (fd : FuncData) (ps : List Str) (sp : Sp) : Prop where
  len : ∀ vs H Q E, sp vs H Q E → vs.length = ps.length
  run : ∀ (A : Around) (outer : List Env) (s : Shared) (H : Hp) (args : Args) (us : List Value) (vs : List V) (Q : VK) (E : XK), Room k A → A.guards = some [] → Env0 P w K mg base A outer s H → BindsTo s fd args (ps.zip us) → Vals vs us → sp vs H Q E →
    codeAny (model P w) A (.call (.ref f) args) (CR CX outer P w H s Q E) s
theorem fn_ofG {CX : CXT} {P : Program} {w : World} {K : PySem.W.Frag} {mg : Str → Option Value} {base : Heap} {k : Nat} {f : Addr} {name qual : Str} {params : Arguments} {body : List Stmt} {scope : Scope} {dV kV doc pm cdv ct oc : Value} {an od : Option Addr}
    {osl : Array (Option Value)} {N ps : List Str} {sp : Sp} (lk : K.lookup f = some ⟨oc, od, .func (PySem.W.fnOf name qual params body scope dV kV doc pm an cdv ct), osl⟩) (hcd : PySem.W.codeIn K cdv qual = true) (S : FnScope N ps scope)
    (len : ∀ vs H Q E, sp vs H Q E → vs.length = ps.length)
    (hbody : ∀ (A : Around) (outer : List Env) (s : Shared) (H : Hp) (vs : List V) (Q : VK) (E : XK), Room k (A.deeper (envOfC qual scope s.heap.objs.size f cdv)) → A.guards = some [] → sp vs H Q E →
      ∃ t, PSs (cxOf CX P w K mg base N qual scope f cdv A outer s H E) body t ∧ t { nx := fun _ H' => Q .non H', rt := Q } (start N vs) H) :
    FnOkG P w K mg base CX (k + 1) f (PySem.W.fnOf name qual params body scope dV kV doc pm an cdv ct) ps sp := by
  refine ⟨len, fun A outer s H args us vs Q E hr hg e0 hb r hsp => ?_⟩
  have hl := len _ _ _ _ hsp
  have KX : K.In s.heap := e0.mod.kin.keeps fun b o e => (e0.bs b o e).1
  have lim : s.heap.NoLimit := e0.mod.nolimit.keeps fun b o e => (e0.bs b o e).1
  refine codeAny_call_function hr.depth (KX _ _ lk) rfl S.co S.gen rfl (PySem.W.codeRec_of KX hcd) (hb _ _ _ _ ?_)
  refine wpAny_newFunctionEnv_cells S.kind (fun ⟨n, v⟩ hy => ?_) fun env he s1 x => ?_
  · rcases S.par n (List.of_mem_zip hy).1 with q | q
    · exact .inl q
    · exact .inr ⟨q, PySem.W.cellsFrom_some _ _ _ (.inl q)⟩
  subst he
  refine ⟨lim.keeps x.toInCall.keep, codeAny_func ?_⟩
  obtain ⟨t, ht, hq⟩ := hbody A outer s H vs Q E (hr.deeper _) hg hsp
  have I : Inv (cxOf CX P w K mg base N qual scope f cdv A outer s H E) [] (start N vs) H s1 := inv_start S hr.hd e0 hl r x
  refine wpAny_mono (ht.run [] s1 (start N vs) H _ I hq) (fun fl s' hs => ?_) fun e s' hs => hs
  cases fl with
  | ret u =>
    obtain ⟨v, σ', H', J, rv, q⟩ := hs
    exact ⟨v, H', J.os, J.bare, J.base, J.hok, rv, q⟩
  | next =>
    obtain ⟨σ', H', J, q⟩ := hs
    exact ⟨.non, H', J.os, J.bare, J.base, J.hok, rfl, q⟩
  | brk =>
    obtain ⟨_, _, _, q⟩ := hs
    exact False.elim q
  | cont =>
    obtain ⟨_, _, _, q⟩ := hs
    exact False.elim q
section
variable {P : Program} {w : World} {K : PySem.W.Frag} {mg : Str → Option Value} {base : Heap}
theorem _root_.L2.Fun.okG {x qual : Str} {st : Stmt} {f : Addr} {fd : FuncData} {N ps : List Str} {k : Nat} {sp : Sp} (F : Fun K x qual st f fd) (S : FnScope N ps (defScope st)) (len : ∀ vs H Q E, sp vs H Q E → vs.length = ps.length)
    (hbody : ∀ (cdv : Value) (A : Around) (outer : List Env) (s : Shared) (H : Hp) (vs : List V) (Q : VK) (E : XK), Room k (A.deeper (envOfC qual (defScope st) s.heap.objs.size f cdv)) → A.guards = some [] → sp vs H Q E →
      ∃ t, PSs (cxOf CX0 P w K mg base N qual (defScope st) f cdv A outer s H E).nox (defBody st) t ∧ t { nx := fun _ H' => Q .non H', rt := Q } (start N vs) H) : FnOkG P w K mg base CX0 (k + 1) f fd ps sp := by
  obtain ⟨oc, od, kV, doc, pm, an, cdv, ct, osl, rfl, lk, hcd⟩ := F.ex
  refine fn_ofG lk hcd S len fun A outer s H vs Q E hr hg hsp => ?_
  obtain ⟨t, h, q⟩ := hbody cdv A outer s H vs Q E hr hg hsp
  exact ⟨t, h.nox, q⟩
end
section
variable {X : Cx} {CX : CXT} {k : Nat} {f : Addr} {fd : FuncData} {ps : List Str} {sp : Sp} {dvs : List V} {ds : List Value} {E : XK} {x : Str} {p pos : Pos} {e : Expr} {es : List Expr} {t : TA}
theorem pe_callG (F : FnOkG X.prog X.w X.K X.mg X.base CX k f fd ps sp) (hr : Room k X.A) (gd : X.A.guards = some []) (hg : Gl X x) (hm : X.mg x = some (.ref f)) (hk : PySem.W.keepIn X.K (.ref f) = true) (hb : Binds X.K fd ps ds) (hd : Vals dvs ds) (hx : Passes CX X E)
    (ha : PA X (e :: es) t) (hdb : (x == ("__debug__" : Str)) = false := by decide) (he : starEach (e :: es) X.env = (false, eval e X.env) :: starEach es X.env := by rfl) (hpl : (backTo pos (starEach es X.env)).any (·.1) = false := by rfl) :
    PE X (.Call (.Name x p) (e :: es) [] pos) (tCall sp dvs E t) := by
  refine ⟨fun pins s σ H Q I h => ?_⟩
  refine wpAny_Call_Name_kw (ld_glob I hg hm ?_ hdb)
  refine PySem.W.callWith_K (h₀ := X.base) I.ok.mod.kin hk (thn (ha.run pos pins s σ H _ I h) fun us s1 ⟨vs, H1, I1, r, q⟩ => ⟨I1.kIn, ?_⟩) he hpl
  have r2 : Vals (vs ++ dvs) (us ++ ds) := r.append hd
  have hl : (us ++ ds).length = ps.length := by rw [← r2.length]; exact F.len _ _ _ _ q
  refine wpAny_call (codeAny_mono (F.run X.A X.stack s1 H1 ⟨us, []⟩ (us ++ ds) (vs ++ dvs) Q E hr gd I1.env0 (hb s1 us I1.kIn hl) r2 q) fun r s' hq => ?_)
  cases r with
  | error e => exact hx pins σ H1 s1 e s' I1 hq
  | ok fl =>
    cases fl with
    | ret u => exact I1.after hq
    | next => exact False.elim hq
    | brk => exact False.elim hq
    | cont => exact False.elim hq
/-- repr of data without dicts -/
def rRepr (K : PySem.W.Frag) : List V → Hp → VK → Prop := fun vs H Q => ∃ (v : V) (d : PyData), vs = [v] ∧ Dp K H v d ∧ d.showable = true ∧ d.hasDict = false ∧ d.depth ≤ 60 ∧ d.shown.length ≤ sizeLine ∧ (∃ a, v = .ref a) ∧ Q (.str d.shown) H
theorem cr_repr (gd : X.A.guards = some []) (hu : X.A.units + 64 < cLine) : CallR X (.builtin "repr") (rRepr X.K) := by
  intro pins s σ H vs us Q I r h
  obtain ⟨v, d, rfl, hd, h1, h2, h3, h4, ⟨a, rfl⟩, q⟩ := h
  rw [Vals.ref1 r]
  obtain ⟨as, rd⟩ := Dp.reads I d (.ref a) (.ref a) hd rfl
  exact repr_of_reads' rd h1 (fun z => by rw [h2] at z; cases z) gd (by omega) (fun b o e => e) (fun h' u tk hk => ⟨.str d.shown, H, I.kept hk, ⟨_, rfl⟩, q⟩) h4
end
/-! ### the head: nothing of repr is under way where the law is called -/
theorem law_callG {P : Program} {w : World} {K : PySem.W.Frag} {mg mb : Str → Option Value} {CX : CXT} {k : Nat} {fa a : Addr} {fd : FuncData} {x : Str} {sp : Sp} {s₁ : Shared} {vs : List Value} {ns : List Int}
    (KX : K.In s₁.heap) (hns : s₁.heap.Ns mainGlobals mg) (hb : s₁.heap.Ns builtinsNs mb) (hbb : ∀ x : Str, x ≠ "__name__" → mb x = bootBuiltins x) (hlim : s₁.heap.NoLimit) (hg : s₁.gens = #[])
    (ha : s₁.heap.get? a = some { cls := .type "list", data := .seq vs.toArray }) (hi : IntsAre vs ns) (hl : ns.length ≤ sizeLine) (hr : Room k callerA)
    (F : ∀ base : Heap, K.In base → base.Ns mainGlobals mg → FnOkG P w K mg base CX k fa fd [x] sp) (hbind : ∀ (s : Shared) (u : Value), BindsTo s fd ⟨[u], []⟩ [(x, u)])
    (hsp : ∀ H : Hp, Only H → SqL K H a (ns.map V.int) → sp [.ref a] H (fun v _ => v = .bl true) fun _ _ _ => False)
    (hCX : ∀ H e s', CX [] H s₁ (fun _ _ _ => False) e s' → False) :
    codeAny (model P w) callerA (.call (.ref fa) ⟨[.ref a], []⟩) (fun r s' => r = .ok (.ret (.bool true)) ∧ OldK s₁.heap s'.heap ∧ s'.os = s₁.os ∧ AllBare s'.gens) s₁ := by
  have rv := vals_ints hi
  have lenV := hi.length
  have core : ∀ H : Hp, Only H → SqL K H a (ns.map V.int) → HOk P w H s₁.heap → (∀ b, H b ≠ none → b = a) → (H a ≠ none → K.lookup a = none) →
      codeAny (model P w) callerA (.call (.ref fa) ⟨[.ref a], []⟩) (fun r s' => r = .ok (.ret (.bool true)) ∧ OldK s₁.heap s'.heap ∧ s'.os = s₁.os ∧ AllBare s'.gens) s₁ := by
    intro H hO hS hok hA hK
    have free : ∀ {b : Addr} {P : Prop}, (∀ u, H b = some u → b = a → P → False) → P → H b = none := fun {b P} h p => by
      cases q : H b with
      | none => rfl
      | some u => exact (h u q (hA b (by rw [q]; simp)) p).elim
    have noA : ∀ {b : Addr} {o : Obj} {es : Array DictEntry} {ep : Nat}, s₁.heap.get? b = some o → o.data = .dict es ep → H b = none := fun {b o es ep} e d => free (P := True) (fun u q e' _ => by
      subst e'
      rw [ha] at e
      cases e
      cases d) trivial
    have nsK : ∀ {b : Addr} {m : Str → Option Value}, s₁.heap.Ns b m → (hidT s₁.heap H).Ns b m := fun {b m} ⟨o, es, ep, e, d, r⟩ => ⟨o, es, ep, hidT_get e (noA e d), d, r⟩
    have hKb : K.In (hidT s₁.heap H) := fun b o e => hidT_get (KX b o e) (free (P := True) (fun u q e' _ => by
      subst e'
      rw [hK (by rw [q]; simp)] at e
      cases e) trivial)
    have hM : Mod K mg (hidT s₁.heap H) := ⟨hKb, nsK hns, ⟨mb, nsK hb, hbb⟩, let ⟨mc, h1, h2⟩ := hlim; ⟨mc, nsK h1, h2⟩⟩
    have e0 : Env0 P w K mg (hidT s₁.heap H) callerA [] s₁ H := ⟨rfl, hM, fun b o e => of_hidT e, Nat.le_of_eq (hidT_size _ _), trivial, fun b hb => absurd (show b ∈ ([] : List Addr) from hb) (by simp), hok, .of_eq hg⟩
    refine codeAny_mono ((F _ hKb (nsK hns)).run callerA [] s₁ H ⟨[.ref a], []⟩ [.ref a] [.ref a] _ _ hr rfl e0 (hbind s₁ (.ref a)) (.cons rfl .nil) (hsp H hO hS)) fun r s' h => ?_
    cases r with
    | error e => exact (hCX H e s' h).elim
    | ok fl =>
      cases fl with
      | next => exact False.elim h
      | brk => exact False.elim h
      | cont => exact False.elim h
      | ret u =>
        obtain ⟨v, H', os, bare, un, hok', r', q⟩ := h
        have q' : v = .bl true := q
        subst q'
        obtain rfl : u = Value.bool true := r'
        refine ⟨rfl, OldK.of_keep fun b o e => ?_, os, bare⟩
        rcases hO b with z | ⟨ob, xs, z⟩
        · exact un.keep b o e z (by intro z; exact absurd (show b ∈ ([] : List Addr) from z) (by simp)) (by simp)
        · have z2 := un.frzs b ob _ z
          obtain ⟨e1, _⟩ := hok b _ z
          obtain ⟨e2, _⟩ := hok' b _ z2
          rw [e] at e1
          cases e1
          exact e2
  cases hk : K.lookup a with
  | some o =>
    have e := KX a o hk
    rw [ha] at e
    cases e
    exact core (fun _ => none) (fun _ => .inl rfl) (.inr ⟨_, vs.toArray, _, hk, rfl, rfl, rfl, by rw [List.size_toArray, lenV]; exact hl, by simpa using rv⟩) (fun b u z => nomatch (show (none : Option HO) = some u from z)) (fun b z => absurd rfl z) fun z => absurd rfl z
  | none =>
    refine core (fun b => if b = a then some (.frz { cls := .type "list", data := .seq vs.toArray } (.lst (ns.map V.int))) else none) (fun b => ?_) (.inl (.inr ⟨{ cls := .type "list", data := .seq vs.toArray }, if_pos rfl⟩)) (fun b u z => ?_) (fun b z => ?_) fun _ => hk
    · by_cases hb : b = a
      · exact .inr ⟨_, _, if_pos hb⟩
      · exact .inl (if_neg hb)
    · by_cases hb : b = a
      · have z' := (if_pos hb).symm.trans z
        cases z'
        subst hb
        exact ⟨ha, by rw [List.length_map]; exact hl, vs, _, rv, ha⟩
      · have z' := (if_neg hb).symm.trans z
        cases z'
    · by_cases hb : b = a
      · exact hb
      · exact absurd (if_neg hb) z
theorem walk_ofG {l : PySem.W.OpenLaw} {n k : Nat} {q : Program} {loose : List Str} {XP : (Str → Option Value) → Heap → Prop} {YP : World → Heap → Prop} {d : DefRec} {K : Params → PySem.W.Frag} {CX : World → CXT} {sp : World → Sp} {x : Str}
    (hn : l.most = some n) (hn2 : n ≤ sizeLine) (hdf : d.params.defaults = []) (hr : Room k callerA)
    (hY : ∀ (w : World) (h : Heap), YP w h → (K w.params).In h)
    (F : ∀ (w : World) (mg : Str → Option Value) (fa : Addr) (h : Heap), (K w.params).In h → h.Ns mainGlobals mg → mg d.name = some (.ref fa) →
      ∃ fd : FuncData, (∀ (s : Shared) (u : Value), BindsTo s fd ⟨[u], []⟩ [(x, u)]) ∧
        ∀ base : Heap, (K w.params).In base → base.Ns mainGlobals mg → FnOkG l.prog w (K w.params) mg base (CX w) k fa fd [x] (sp w))
    (hsp : ∀ (w : World) (H : Hp) (a : Addr) (ns : List Int), ns.length ≤ n → Only H → SqL (K w.params) H a (ns.map V.int) → sp w [.ref a] H (fun v _ => v = .bl true) fun _ _ _ => False)
    (hCX : ∀ (w : World) (H : Hp) (s : Shared) (e : Value) (s' : Shared), CX w [] H s (fun _ _ _ => False) e s' → False) :
    PySem.W.WalkO q loose XP YP l.row.toRowW d [] (fun f vs => PySem.call f vs) := by
  refine Att.attach_call hn hdf fun w s₀ s₁ mg mb fa o pm cd doc a vs ns G Y ho hd hcd hmg hobj hints hlen hg => ?_
  have KX := hY w _ Y
  obtain ⟨fd, hb, hF⟩ := F w mg fa _ KX G.T.g hmg
  exact law_callG KX G.T.g G.T.b G.T.builtins G.T.nolimit hg hobj hints (Nat.le_trans hlen hn2) hr hF hb (fun H hO hS => hsp w H a ns hlen hO hS) fun H e s' => hCX w H s₁ e s'
end My
set_option Elab.async false
set_option linter.all false
set_option maxRecDepth 100000
set_option maxHeartbeats 4000000
/-! sorted(d) of a dict whose keys are ints. -/
namespace My
open PySem PySem.Spec PyProof.Rows L2
theorem len_dict : typeLookup (.type "dict") "__len__" = pure (some (.builtin "dict.__len__")) := by rw [typeLookup_type, builtinLookup_eq_fast]; kernel_rfl
section
variable {prog : Program} {w : World} {A : Around} {E : Value → Shared → Prop} {s : Shared} {d : Addr} {od : Obj} {es : Array DictEntry} {ep : Nat}
theorem dict_hint (hT : s.TypeIs (.ref d) "dict") {Q : Bool → Shared → Prop} (h : Q false s) : wpAny (model prog w) A (Builtin.List.listLengthHint (.ref d)) Q E s := by
  unfold Builtin.List.listLengthHint
  refine wpAny_bind (wpAny_specialOf hT len_dict ?_)
  generalize hid : ("dict.__len__" : String) = id0
  wp_delta
  rw [show splitId id0 = some ("dict", "__len__") from by subst hid; decide +kernel]
  subst hid
  refine wpAny_bind (wpAny_isInstance (T := "dict") (b := true) hT (by rw [isSubtype_type]; kernel_rfl) ?_)
  refine wpAny_ite_split (fun hab => absurd hab (by decide)) (fun _ => ?_)
  refine wpAny_ite_split (fun _ => ?_) (fun hab => absurd (by decide +kernel) hab)
  refine wpAny_bind (wpAny_typeOf hT ?_)
  exact wpAny_pure h
/-- the loop that takes the keys -/
theorem loopD {R : Result → Shared → Prop} {S I : Addr} (hh : A.handled = none) (hSI : S ≠ I) (hSd : d ≠ S) (hId : d ≠ I) (hn : es.size ≤ sizeLine) (res : Value) {h₁ : Heap} (hdd : od.data = .dict es ep)
    (hR : ∀ h' c, (∀ b o, b ≠ S → b ≠ I → h₁.get? b = some o → h'.get? b = some o) → h'.get? S = some { cls := .type "list", dict := none, data := .seq (es.map (·.key)) c, slots := #[] } → R (.ok (.ret res)) { s with heap := h' }) :
    ∀ (k i : Nat) (h : Heap) (c : Nat) (acc : Array Value), es.size - i = k → i ≤ es.size → h.IsKeyIter I d i es.size ep → h.get? d = some od → (∀ b o, b ≠ S → b ≠ I → h₁.get? b = some o → h.get? b = some o) →
      h.get? S = some { cls := .type "list", dict := none, data := .seq acc c, slots := #[] } → acc.toList = (es.toList.take i).map (·.key) →
      codeAny (model prog w) A (.builtin "list.extend.loop" ⟨[.ref S, .ref I, res], []⟩) R { s with heap := h } := by
  intro k
  induction k with
  | zero =>
    intro i h c acc hk hi hst hD hkeep hS hacc
    refine codeAny_builtin PySem.F.entry_extend_loop ?_
    rw [Around.under_plainId PySem.F.plain_extend_loop _]
    show wpAny _ A.in1 (pyNext (.ref I) >>= _) _ _ _
    refine wpAny_bind (next_key_end (s := { s with heap := h }) (A := A.in1) hh hst hD hdd rfl (by omega) fun h' he => ?_)
    have ea : acc = es.map (·.key) := by
      apply Array.toList_inj.mp
      rw [hacc, List.take_of_length_le (by rw [Array.length_toList]; omega), Array.toList_map]
    rw [ea] at hS
    exact wpAny_pure (hR h' c (fun b o h1 h2 e => he b o h2 (hkeep b o h1 h2 e)) (he S _ hSI hS))
  | succ k ih =>
    intro i h c acc hk hi hst hD hkeep hS hacc
    have hlt : i < es.size := by omega
    have hsz : acc.size = i := by rw [← Array.length_toList, hacc, List.length_map, List.length_take, Array.length_toList]; omega
    refine codeAny_builtin PySem.F.entry_extend_loop ?_
    rw [Around.under_plainId PySem.F.plain_extend_loop _]
    show wpAny _ A.in1 (pyNext (.ref I) >>= _) _ _ _
    refine wpAny_bind (next_key_item (s := { s with heap := h }) (en := es[i]) hst hD hdd rfl (Array.getElem?_eq_getElem hlt) fun h' hst' hs' => ?_)
    have hS' := hs'.extBut S _ hSI hS
    have up : ∀ b o, b ≠ S → h'.get? b = some o → (h'.update S (Obj.mapSeq (·.push es[i].key))).get? b = some o := fun b o hb e => (Heap.get?_update_other _ _ (Ne.symm hb)).trans e
    show wpAny _ A.in1 (updateSeq S (·.push es[i].key) >>= _) _ _ _
    refine wpAny_bind ?_
    refine wpAny_updateSeq hS' rfl (wpAny_pure ⟨plainId_quiet PySem.F.plain_extend_loop _, ih (i + 1) _ _ (acc.push es[i].key) (by omega) hlt (hst'.at fun o e => up _ o hSI.symm e) (up d _ hSd (hs'.extBut d _ hId hD))
      (fun b o h1 h2 e => up b o h1 (hs'.extBut b _ h2 (hkeep b o h1 h2 e))) (Heap.get?_update_self _ hS' rfl) ?_⟩) (by rw [hsz]; omega) (by show (acc.push es[i].key).size ≤ sizeLine + 1; rw [Array.size_push, hsz]; omega)
    rw [Array.toList_push, hacc, List.take_add_one, Array.getElem?_toList, Array.getElem?_eq_getElem hlt, List.map_append]
    rfl
theorem extD {R : Result → Shared → Prop} {P2 : Program} {κ : Type} [DecidableEq κ] {knd : PySem.KeyKind prog w κ} {kvs : List (κ × Value)} (hh : A.handled = none) (hsys : (d == sysModules) = false) (hm : s.heap.DictAt knd d kvs ep) (ho : s.heap.get? d = some od) (hdd : od.data = .dict es ep) (hk : kvs.length = es.size) (S : Addr) (hSd : d ≠ S) (res : Value) (c₀ : Nat) (hS : s.heap.get? S = some { cls := .type "list", data := .seq #[] c₀ })
    (hR : ∀ h' c, (∀ b o, b ≠ S → s.heap.get? b = some o → h'.get? b = some o) → h'.get? S = some { cls := .type "list", dict := none, data := .seq (es.map (·.key)) c, slots := #[] } → R (.ok (.ret res)) { s with heap := h' }) (hn : es.size ≤ sizeLine) :
    wpAny (model prog w) A.in1 (Builtin.List.listExtendWith (.ref S) (.ref d) res)
      (fun fin s' => match fin with | .done f => R (.ok f) s' | .again c' => c'.quiet = true ∧ codeAny (model prog w) A c' R s') (fun e s' => R (.error e) s') s := by
  have hSI : S < s.heap.objs.size := Heap.lt_size hS
  have hdI : d < s.heap.objs.size := Heap.lt_size ho
  have hT : s.TypeIs (.ref d) "dict" := hm.dictOf.typeIs
  have key : ∀ (h : Heap) (c₁ : Nat), (∀ b o, b ≠ S → (s.heap.push { cls := .type "dict_keyiterator", data := .fields #[.ref d, .int 0 0, .int kvs.length 0, .int ep 0] }).get? b = some o → h.get? b = some o) →
      h.get? S = some { cls := .type "list", data := .seq #[] c₁ } → codeAny (model prog w) A (.builtin "list.extend.loop" ⟨[.ref S, .ref s.heap.objs.size, res], []⟩) R { s with heap := h } := by
    intro h c₁ hk' hS₁
    have hI := hk' s.heap.objs.size _ (Nat.ne_of_gt hSI) (Heap.get?_push_size _ rfl)
    rw [hk] at hI
    exact loopD (s := s) (h₁ := s.heap) hh (Nat.ne_of_lt hSI) hSd (Nat.ne_of_lt hdI) hn res hdd (fun h' c hk2 hS2 => hR h' c (fun b o hb e => hk2 b o hb (Nat.ne_of_lt (Heap.lt_size e)) e) hS2)
      es.size 0 h c₁ #[] (Nat.sub_zero _) (Nat.zero_le _) ⟨_, hI, rfl, rfl⟩ (hk' d _ hSd (Heap.get?_push_of_some _ ho)) (fun b o hb _ e => hk' b o hb (Heap.get?_push_of_some _ e)) hS₁ rfl
  unfold Builtin.List.listExtendWith
  refine wpAny_bind (wpAny_typeOf (T := "dict") hT ?_)
  have h1 : Builtin.List.listSameRef (.ref S) (.ref d) = false := by simp [Builtin.List.listSameRef, Ne.symm hSd]
  have h2 : (Value.type "dict" == Value.type "list") = false := by decide
  have h3 : (Value.type "dict" == Value.type "tuple") = false := by decide
  simp only [h1, h2, h3, Bool.or_false, Bool.false_eq_true, if_false]
  refine wpAny_bind (wpAny_pyIter_dict hsys hm ?_)
  have hS₁ := Heap.get?_push_of_some { cls := .type "dict_keyiterator", data := .fields #[.ref d, .int 0 0, .int kvs.length 0, .int ep 0] } hS
  refine wpAny_bind (wpAny_holding (dict_hint (let ⟨o, ho, hc⟩ := hT; ⟨o, Heap.get?_push_of_some _ ho, hc⟩) ?_))
  refine wpAny_ite_split (fun _ => ?_) (fun _ => wpAny_pure ⟨plainId_quiet PySem.F.plain_extend_loop _, key _ c₀ (fun b o _ e => e) hS₁⟩)
  refine wpAny_bind (wpAny_rule ?_)
  refine wpAny_bind ?_
  show wpAny _ _ (updateSeq S (·.push .none) >>= fun _ => updateSeq S (·.pop)) _ _ _
  refine wpAny_bind (wpAny_updateSeq hS₁ rfl ?_)
  have hS₂ := Heap.get?_update_self (Obj.mapSeq (·.push Value.none)) hS₁ rfl
  refine wpAny_updateSeq (hz := by seq_fits) hS₂ rfl ?_
  have hS₃ := Heap.get?_update_self (Obj.mapSeq (·.pop)) hS₂ rfl
  refine wpAny_pure ⟨plainId_quiet PySem.F.plain_extend_loop _, key _ _ (fun b o hb e => ?_) hS₃⟩
  exact (Heap.get?_update_other _ _ (Ne.symm hb)).trans ((Heap.get?_update_other _ _ (Ne.symm hb)).trans e)
theorem collectD {R : List Value → Shared → Prop} {κ : Type} [DecidableEq κ] {knd : PySem.KeyKind prog w κ} {kvs : List (κ × Value)} (hh : A.handled = none) (hsys : (d == sysModules) = false) (hm : s.heap.DictAt knd d kvs ep) (ho : s.heap.get? d = some od) (hdd : od.data = .dict es ep) (hk : kvs.length = es.size) (hn : es.size ≤ sizeLine)
    (h : ∀ (h' : Heap), (∀ b o, s.heap.get? b = some o → h'.get? b = some o) → s.heap.objs.size < h'.objs.size → R (es.toList.map (·.key)) { s with heap := h' }) :
    wpAny (model prog w) A (collect (.ref d)) R E s := by
  have hd : d < s.heap.objs.size := Heap.lt_size ho
  unfold collect
  refine wpAny_bind (wpAny_runValue (codeAny_builtin entry_proto_collect' ?_))
  rw [Around.under_plainId PySem.F.plain_proto_collect _]
  show wpAny _ A.in1 (newList [] >>= fun l => again (.builtin "list.__iadd__" ⟨[l, .ref d], []⟩)) _ _ s
  refine wpAny_bind (wpAny_newObj_type ?_)
  refine wpAny_pure ⟨plainId_quiet PySem.F.plain_list_iadd _, codeAny_builtin entry_list_iadd' ?_⟩
  rw [Around.under_plainId PySem.F.plain_list_iadd _]
  have hS₁ : (s.heap.push { cls := .type "list", data := .seq ([] : List Value).toArray }).get? s.heap.objs.size = some { cls := .type "list", data := .seq #[] } := Heap.get?_push_size _ rfl
  show wpAny _ A.in1 (Builtin.List.listExtendWith (.ref s.heap.objs.size) (.ref d) (.ref s.heap.objs.size)) _ _ _
  have key := extD (prog := prog) (w := w) (A := A) (P2 := prog) (s := { s with heap := s.heap.push { cls := .type "list", data := .seq ([] : List Value).toArray } }) (es := es) (ep := ep) (od := od) (knd := knd) (kvs := kvs)
    (R := fun (q : Result) (s' : Shared) => ∃ (h' : Heap) (c' : Nat), q = .ok (.ret (.ref s.heap.objs.size)) ∧ s' = { s with heap := h' } ∧
      (∀ b o, s.heap.get? b = some o → h'.get? b = some o) ∧ h'.get? s.heap.objs.size = some { cls := .type "list", dict := none, data := .seq (es.map (·.key)) c', slots := #[] })
    hh hsys (hm.push _) (Heap.get?_push_of_some _ ho) hdd hk s.heap.objs.size (Nat.ne_of_lt hd) (.ref s.heap.objs.size) 0 hS₁
    (fun h' c' hk2 hS' => ⟨h', c', rfl, rfl, fun b o e => hk2 b o (Nat.ne_of_lt (Heap.lt_size e)) (Heap.get?_push_of_some _ e), hS'⟩) hn
  have fin : ∀ (h' : Heap) (c' : Nat), (∀ b o, s.heap.get? b = some o → h'.get? b = some o) → h'.get? s.heap.objs.size = some { cls := .type "list", dict := none, data := .seq (es.map (·.key)) c', slots := #[] } → R (es.map (·.key)).toList { s with heap := h' } := fun h' c' hk2 hS' => by
    rw [Array.toList_map]
    exact h h' hk2 (Heap.lt_size hS')
  refine wpAny_mono key (fun fn s' x => ?_) fun e s' x => ?_
  · cases fn with
    | done f =>
      obtain ⟨h', c', e, rfl, hk2, hS'⟩ := x
      cases e
      show wpAny _ A (load s.heap.objs.size >>= _) _ _ _
      refine wpAny_bind (wpAny_load hS' ?_)
      exact wpAny_pure (fin h' c' hk2 hS')
    | again c₁ =>
      refine ⟨x.1, codeAny_mono x.2 fun q s₂ y => ?_⟩
      obtain ⟨h', c', rfl, rfl, hk2, hS'⟩ := y
      show wpAny _ A (load s.heap.objs.size >>= _) _ _ _
      refine wpAny_bind (wpAny_load hS' ?_)
      exact wpAny_pure (fin h' c' hk2 hS')
  · obtain ⟨_, _, e', _⟩ := x
    cases e'
end
section
variable {X : Cx}
theorem keys_of {P : Program} {w : World} : ∀ {es : List DictEntry} {kvs : List (Key × Value)}, Pairs (mixKind P w) es kvs → es.length = kvs.length ∧ ∀ ns : List Int, kvs.map (·.1) = ns.map Sum.inl → IntsAre (es.map (·.key)) ns
  | _, _, .nil => ⟨rfl, fun ns h => by
    cases ns with
    | nil => exact .nil
    | cons n ns => cases h⟩
  | _, _, .cons hk hv hp => by
    obtain ⟨h1, h2⟩ := keys_of hp
    refine ⟨by simp [h1], fun ns h => ?_⟩
    cases ns with
    | nil => cases h
    | cons n ns =>
      injection h with e1 e2
      dsimp only at e1
      rcases keyIs_shape hk with ⟨i, t, h3, h4⟩ | ⟨x, t, h3, h4⟩
      · rw [h3] at e1
        cases e1
        rw [List.map_cons, h4]
        exact .cons _ _ (h2 ns e2)
      · rw [h3] at e1
        cases e1
/-- sorted(d), the keys ints -/
def rSortedD : List V → Hp → VK → Prop := fun vs H Q => ∃ (a : Addr) (kvs : List (Key × V)) (ns : List Int), vs = [V.ref a] ∧ H a = some (.dK kvs) ∧ kvs.map (·.1) = ns.map Sum.inl ∧ ∀ ns' : List Int, ns'.Perm ns → ns'.Pairwise (· ≤ ·) → New (.lst (ns'.map V.int)) H Q
theorem cr_sortedD (hc : X.calm = true) : CallR X (.builtin "sorted") rSortedD := by
  intro pins s σ H vs us Q I r h
  obtain ⟨a, kvs, ns, rfl, ha, hk, q⟩ := h
  rw [Vals.ref1 r]
  obtain ⟨z, hsys, vs, rel, dd⟩ := dk_of I.hok ha
  obtain ⟨ep, dat⟩ := dd.dictAt
  obtain ⟨od, es, ho, hex, hdat, hks, hp, hnd⟩ := id dat
  obtain ⟨l1, hi⟩ := keys_of hp
  have ek : vs.map (·.1) = kvs.map (·.1) := by
    have : ∀ {kvs : List (Key × V)} {vs : List (Key × Value)}, KV kvs vs → vs.map (·.1) = kvs.map (·.1) := fun rel => by
      induction rel with
      | nil => rfl
      | cons h _ ih => rw [List.map_cons, List.map_cons, ih, h.1]
    exact this rel
  have hI := hi ns (ek.trans hk)
  have lk : vs.length = es.size := by rw [← l1, Array.length_toList]
  have lz : es.size ≤ sizeLine := by
    rw [← lk, ← List.length_map (f := (·.1)), ek, List.length_map]
    exact z
  refine Calls.call_function_entry kind_sorted plain_sorted entry_sorted (args_sorted1 _) ?_
  unfold Builtin.«sorted»
  refine wpAny_bind (m := checkCount "sorted" 1 1 _) (wpAny_pure ?_)
  refine wpAny_bind (collectD (A := X.A.in1) (I.ok.hd hc) hsys dat ho hdat lk lz fun h' hk' hlt => ?_)
  refine wpAny_bind (wpAny_newList ?_ (by rw [List.length_map, Array.length_toList]; exact lz))
  have hoL : (h'.push (seqObj "list" (es.toList.map (·.key)).toArray 0)).get? h'.objs.size = some (seqObj "list" (es.toList.map (·.key)).toArray 0) := Heap.get?_push_size _ rfl
  refine wpAny_bind (wpAny_holding (wpAny_call_entry PyProof.Rows.slot_list_sort ⟨_, hoL, rfl⟩ PyProof.Rows.entry_list_sort
    (SrtO.list_sort_ord SrtO.swo_int hoL (by rw [List.length_map, Array.length_toList]; exact lz) (fun h2 => SrtO.ints_sortable hI h2) fun out h1 h2 => ⟨_, rfl, ?_⟩) (PyProof.Rows.args_list_sort _)))
  obtain ⟨k1, k2, k3⟩ := SrtO.ints_out hI h1 h2
  obtain ⟨c, hc'⟩ := sortedHeap_at (vs := es.toList.map (·.key)) (out := out.toArray) hoL
  have hlen : ((out.map SrtO.iv).map V.int).length ≤ sizeLine := by
    rw [List.length_map, k2.length_eq, ← hI.length, List.length_map, Array.length_toList]
    exact lz
  have hle : s.heap.objs.size ≤ h'.objs.size := Nat.le_of_lt hlt
  have hn : H h'.objs.size = none := I.hok.fresh hle
  refine wpAny_pure ⟨_, rfl, .ref _, upd H h'.objs.size (.lst ((out.map SrtO.iv).map V.int)), I.laid (t' := s.toks) (fun b o e => ?_) hle ⟨hlen, out, c, vals_of_ints k1, hc'⟩, rfl, (q _ k2 k3).go _ hn⟩
  have e1 := hk' b o e
  have hb := Heap.lt_size e1
  rw [sortedHeap_old (Nat.ne_of_lt hb) (by rw [Heap.size_push]; exact Nat.lt_succ_of_lt hb)]
  exact Heap.get?_push_of_some _ e1
end
end My
set_option Elab.async false
set_option linter.all false
set_option maxRecDepth 100000
set_option maxHeartbeats 4000000
/-! dicts with int keys, as a list of keys and a function. -/
namespace My
open PySem L2
def kvsOf (ns : List Int) (g : Int → V) : List (Key × V) := ns.map fun n => (Sum.inl n, g n)
theorem kvs_keys (ns : List Int) (g : Int → V) : (kvsOf ns g).map (·.1) = ns.map Sum.inl := by
  unfold kvsOf
  rw [List.map_map]
  rfl
theorem kvs_len (ns : List Int) (g : Int → V) : (kvsOf ns g).length = ns.length := by
  unfold kvsOf
  rw [List.length_map]
theorem kvs_congr {ns : List Int} {g g' : Int → V} (h : ∀ n ∈ ns, g n = g' n) : kvsOf ns g = kvsOf ns g' := by
  unfold kvsOf
  exact List.map_congr_left fun n hn => by rw [h n hn]
theorem valV_kvs (g : Int → V) (k : Int) : ∀ ns : List Int, valV (kvsOf ns g) (Sum.inl k) = if k ∈ ns then some (g k) else none
  | [] => rfl
  | n :: ns => by
    show valV ((Sum.inl n, g n) :: kvsOf ns g) (Sum.inl k) = _
    by_cases e : n = k
    · subst e
      rw [valV_pos rfl, if_pos List.mem_cons_self]
    · rw [valV_neg (fun z => e (Sum.inl.inj z)), valV_kvs g k ns]
      by_cases m : k ∈ ns
      · rw [if_pos m, if_pos (List.mem_cons_of_mem _ m)]
      · rw [if_neg m, if_neg (fun z => by
          rcases List.mem_cons.mp z with z | z
          · exact e z.symm
          · exact m z)]
theorem any_kvs (g : Int → V) (k : Int) (ns : List Int) : ((kvsOf ns g).any fun kv => decide (kv.1 = Sum.inl k)) = decide (k ∈ ns) := by
  unfold kvsOf
  rw [List.any_map, Bool.eq_iff_iff, List.any_eq_true]
  constructor
  · rintro ⟨n, hn, e⟩
    have : n = k := by simpa using e
    subst this
    exact decide_eq_true hn
  · intro h
    exact ⟨k, of_decide_eq_true h, by simp⟩
theorem putK_kvs (g : Int → V) (k : Int) (v : V) (ns : List Int) : putK (kvsOf ns g) (Sum.inl k) v = kvsOf (if k ∈ ns then ns else ns ++ [k]) (fun n => if n = k then v else g n) := by
  unfold putK
  rw [any_kvs]
  by_cases m : k ∈ ns
  · rw [decide_eq_true m, if_pos rfl, if_pos m]
    unfold kvsOf
    rw [List.map_map]
    refine List.map_congr_left fun n hn => ?_
    show (if (Sum.inl n : Key) = Sum.inl k then ((Sum.inl n : Key), v) else (Sum.inl n, g n)) = (Sum.inl n, if n = k then v else g n)
    by_cases e : n = k
    · rw [if_pos (by rw [e]), if_pos e]
    · rw [if_neg (fun z => e (Sum.inl.inj z)), if_neg e]
  · rw [decide_eq_false m, if_neg Bool.false_ne_true, if_neg m]
    unfold kvsOf
    rw [List.map_append]
    congr 1
    · refine List.map_congr_left fun n hn => ?_
      have z : ¬ n = k := fun z => m (by rw [← z]; exact hn)
      show (Sum.inl n, g n) = (Sum.inl n, if n = k then v else g n)
      rw [if_neg z]
    · show [(Sum.inl k, v)] = [(Sum.inl k, if k = k then v else g k)]
      rw [if_pos rfl]
theorem dropK_kvs (g : Int → V) (k : Int) (ns : List Int) : dropK (kvsOf ns g) (Sum.inl k) = kvsOf (ns.filter fun n => decide (n ≠ k)) g := by
  unfold dropK kvsOf
  rw [List.filter_map]
  congr 1
  refine List.filter_congr fun n hn => ?_
  show decide ((Sum.inl n : Key) ≠ Sum.inl k) = decide (n ≠ k)
  rw [decide_eq_decide]
  exact ⟨fun h e => h (by rw [e]), fun h e => h (Sum.inl.inj e)⟩
theorem put_nodup {ns : List Int} (h : ns.Nodup) (k : Int) : (if k ∈ ns then ns else ns ++ [k]).Nodup := by
  split
  · exact h
  · rename_i m
    rw [List.nodup_append]
    exact ⟨h, by simp, fun a ha b hb => by
      have : b = k := by simpa using hb
      subst this
      exact fun e => m (e ▸ ha)⟩
theorem mem_put {ns : List Int} {k r : Int} : r ∈ (if k ∈ ns then ns else ns ++ [k]) ↔ r ∈ ns ∨ r = k := by
  split
  · rename_i m
    exact ⟨.inl, fun h => h.elim id fun e => e ▸ m⟩
  · simp
/-- two ascending lists without doubles of the same members are one -/
theorem asc_unique : ∀ {l m : List Int}, l.Pairwise (· < ·) → m.Pairwise (· < ·) → (∀ r, r ∈ l ↔ r ∈ m) → l = m
  | [], [], _, _, _ => rfl
  | [], y :: m, _, _, h => by
    have := (h y).mpr List.mem_cons_self
    cases this
  | x :: l, [], _, _, h => by
    have := (h x).mp List.mem_cons_self
    cases this
  | x :: l, y :: m, h1, h2, h => by
    obtain ⟨a1, a2⟩ := List.pairwise_cons.mp h1
    obtain ⟨b1, b2⟩ := List.pairwise_cons.mp h2
    have e : x = y := by
      rcases List.mem_cons.mp ((h x).mp List.mem_cons_self) with z | z
      · exact z
      · rcases List.mem_cons.mp ((h y).mpr List.mem_cons_self) with z' | z'
        · exact z'.symm
        · have := b1 x z
          have := a1 y z'
          omega
    subst e
    rw [asc_unique a2 b2 fun r => ?_]
    constructor
    · intro hr
      rcases List.mem_cons.mp ((h r).mp (List.mem_cons_of_mem _ hr)) with z | z
      · have := a1 r hr
        omega
      · exact z
    · intro hr
      rcases List.mem_cons.mp ((h r).mpr (List.mem_cons_of_mem _ hr)) with z | z
      · have := b1 r hr
        omega
      · exact z
theorem asc_of {ns ns' : List Int} (hp : ns'.Perm ns) (hs : ns'.Pairwise (· ≤ ·)) (hn : ns.Nodup) : ns'.Pairwise (· < ·) := by
  have hn' : ns'.Nodup := hp.nodup_iff.mpr hn
  exact (List.Pairwise.and hs hn').imp fun ⟨h1, h2⟩ => by omega
end My
namespace My
open PySem L2
/-- a dict comprehension over any walk -/
theorem dc_it {J : It} {n : Nat} {G : Hp → Prop} {Y : Nat → Hp → V → Hp → Prop} (w : Walk J n G Y) {g : TG} {tt : TT} {tk tv : TE} {vs : List Nat} {σ : L2.St} {H1 : Hp} {D : Addr} {Qd : Hp → Prop} (Pv : Nat → Hp → Prop) (h0 : Pv 0 (upd H1 D (.dK []))) (hG : ∀ i H, i ≤ n → Pv i H → G H)
    (hs : ∀ i x H H', i < n → Pv i H → Y i H x H' → g x (wipe σ vs) H' fun σ2 H2 => wipe σ2 vs = wipe σ vs ∧ tt σ2 H2 fun b H3 =>
      if b = true then tk σ2 H3 fun y H4 => tv σ2 H4 fun z H5 => ∃ kvs k, y = kV k ∧ H5 D = some (.dK kvs) ∧ kvs.length < sizeLine ∧ Pv (i + 1) (upd H5 D (.dK (putK kvs k z))) else Pv (i + 1) H3) (hd : ∀ H, Pv n H → Qd H) :
    ∃ W : Nat → Nat → Hp → Prop, (∃ m, W 0 m (upd H1 D (.dK []))) ∧ ∀ i m H, W i m H →
      (J.stop i H ∧ Qd H) ∨ (J.go i H ∧ ∃ Nx : Hp → Prop, (∀ H', Nx H' → ∃ m', m' < m ∧ W (i + 1) m' H') ∧ ∀ x H', J.yld i H x H' → g x (wipe σ vs) H' fun σ2 H2 => wipe σ2 vs = wipe σ vs ∧ tt σ2 H2 fun b H3 =>
        if b = true then tk σ2 H3 fun y H4 => tv σ2 H4 fun z H5 => ∃ kvs k, y = kV k ∧ H5 D = some (.dK kvs) ∧ kvs.length < sizeLine ∧ Nx (upd H5 D (.dK (putK kvs k z))) else Nx H3) := by
  refine ⟨fun i m H => m = n - i ∧ i ≤ n ∧ Pv i H, ⟨n, by simp, Nat.zero_le _, h0⟩, ?_⟩
  rintro i m H ⟨rfl, hi, p⟩
  have q := hG i H hi p
  by_cases hlt : i < n
  · exact .inr ⟨w.goes i H hlt q, Pv (i + 1), fun H' p' => ⟨n - (i + 1), by omega, rfl, hlt, p'⟩, fun x H' y => hs i x H H' hlt p (w.yields i H x H' hlt q y)⟩
  · have e : i = n := by omega
    subst e
    exact .inl ⟨w.stops H q, hd H p⟩
end My
namespace My
open PySem PySem.Spec PyProof.Rows L2
section
variable {X : Cx}
/-- x = {k: v for ..} -/
theorem ps_setDc {i : Nat} {y : Str} {py : Pos} {kx vx tg iter : Expr} {ifs : List Expr} {scope : Scope} {own : List (Str × Nat)} {pos spos : Pos} {wi : TI} {g : TG} {tt : TT} {tk tv : TE} (hc : X.calm = true) (hN : X.N.Nodup) (hy : X.N[i]? = some y) (hyl : X.env.scope.names.lookup y = some .local)
    (hsw : swapsWith (.DictComp kx vx [⟨tg, iter, ifs, 0⟩] scope pos) (some (.Name y py)) spos.line X.env = pure true) (hi : PI X tg iter wi) (ok : BlkOk X.N X.env.scope scope own)
    (hg : ∀ (s : Shared) (H : Hp) (C : Addr) (cl : List (Str × Addr)) (fp : List Addr), PG (X.blk s H scope (compEnvC scope cl C X.env) fp) tg g) (ht : ∀ (s : Shared) (H : Hp) (C : Addr) (cl : List (Str × Addr)) (fp : List Addr), PTs (X.blk s H scope (compEnvC scope cl C X.env) fp) ifs tt)
    (hk : ∀ (s : Shared) (H : Hp) (C : Addr) (cl : List (Str × Addr)) (fp : List Addr), PE (X.blk s H scope (compEnvC scope cl C X.env) fp) kx tk)
    (he : ∀ (s : Shared) (H : Hp) (C : Addr) (cl : List (Str × Addr)) (fp : List Addr), PE (X.blk s H scope (compEnvC scope cl C X.env) fp) vx tv) (hs : ∀ x, foldedSetIterable iter X.env x = pure x := by intro _; rfl) :
    PS X (.Assign [.Name y py] (.DictComp kx vx [⟨tg, iter, ifs, 0⟩] scope pos) spos) (tAsg (tDc wi g tt tk tv (own.map (·.2))) (gName i)) := by
  refine ⟨fun pins s σ H D I h => ?_⟩
  rw [exec_Assign_Name_used _ _ _ _ hsw]
  refine wpAny_bind (wpAny_standAt (wpAny_bind ?_))
  show wpAny _ X.A (do let _ ← comprehension (.DictComp kx vx [⟨tg, iter, ifs, 0⟩] scope pos) scope X.env (firstIterPos [⟨tg, iter, ifs, 0⟩] pos) newDict false (eval iter X.env) (some (assign (.Name y py) X.env))) _ _ s
  have h : tDc wi g tt tk tv (own.map (·.2)) σ H (fun x H1 => gName i x σ H1 D.nx) := h
  refine wpAny_bind (thn (dc_core (Qf := fun _ s' => SP X pins D .next s') hc hN I hi ok hg ht hk he hs h fun L C s' m H' I' q hn f => ?_) fun _ s' hq => wpAny_pure (wpAny_pure hq))
  show wpAny _ _ (assign (.Name y py) X.env (.ref L)) _ _ _
  refine wpAny_assign_Name (store_ok2 (v := V.ref L) I' hN hy (.inl hyl) rfl (fun s2 I2 ⟨a, sb, ha⟩ => ?_) (.inr hyl))
  obtain ⟨f0, f1, f2, f3, f4, f5⟩ := f
  have haC : C ≠ a := by
    rcases ha with z | z
    · rw [z]; exact f1
    · exact fun e => f4 y a z e.symm
  refine ⟨m, hn.sameBut sb haC, fun h3 sb3 => ?_⟩
  exact ⟨_, H', I2.turned (t' := s2.toks) (fun b o hb e => (sb3.2 b hb).trans e) f0 f1 f3 f4 f5, q⟩
theorem sw_trueD {kx vx : Expr} {gs : List Comprehension} {scope : Scope} {pos py : Pos} {y : Str} {l : Nat} {env : Env} (hk : env.scope.kind = .function) (hy : env.scope.names.lookup y = some .local) (hl : (py.line == pos.line) = true)
    (ha : (scope.names.any fun (n, k) => n == y && (k == .local || k == .cell)) = false) : swapsWith (.DictComp kx vx gs scope pos) (some (.Name y py)) l env = pure true := by
  have ky : env.kindOf y = some .local := hy
  have hb : env.blockKind = .function := by unfold Env.blockKind; rw [hk]; rfl
  unfold swapsWith
  simp only [hb, ky, ha, Expr.pos, hl]
  rfl
end
end My
namespace My
open PySem L2
theorem cut_mid (xs : List V) {n m : Nat} (h : m ≤ xs.length) : cutV xs (some (n : Int)) (some (m : Int)) = (xs.drop n).take (m - n) := by
  unfold cutV
  rw [HT.sIx_nat, HT.sIx_nat, Nat.min_eq_left h]
  by_cases h2 : n ≤ xs.length
  · rw [Nat.min_eq_left h2]
  · rw [Nat.min_eq_right (by omega), List.drop_eq_nil_of_le (Nat.le_refl _), List.drop_eq_nil_of_le (by omega), List.take_nil, List.take_nil]
theorem nodup_len : ∀ {l m : List Int}, l.Nodup → (∀ r ∈ l, r ∈ m) → l.length ≤ m.length
  | [], _, _, _ => Nat.zero_le _
  | x :: l, m, h, s => by
    obtain ⟨h1, h2⟩ := List.nodup_cons.mp h
    have hx := s x List.mem_cons_self
    have := nodup_len (m := m.erase x) h2 fun r hr => (List.mem_erase_of_ne (fun e : r = x => h1 (by rw [← e]; exact hr))).mpr (s r (List.mem_cons_of_mem _ hr))
    rw [List.length_erase_of_mem hx] at this
    have : 0 < m.length := List.length_pos_of_mem hx
    rw [List.length_cons]
    omega
/-- the keys of a dict of marks -/
structure FdOk (f : Int → Bool) (dom ks : List Int) : Prop where
  nd : ks.Nodup
  is : ∀ r, r ∈ ks ↔ f r = true
  dm : ∀ r ∈ ks, r ∈ dom
theorem FdOk.len {f : Int → Bool} {dom ks : List Int} (h : FdOk f dom ks) : ks.length ≤ dom.length := nodup_len h.nd h.dm
theorem FdOk.congr {f g : Int → Bool} {dom ks : List Int} (h : FdOk f dom ks) (e : ∀ r, f r = g r) : FdOk g dom ks := ⟨h.nd, fun r => by rw [h.is, e], h.dm⟩
theorem FdOk.put {f : Int → Bool} {dom ks : List Int} (h : FdOk f dom ks) {k : Int} (hk : k ∈ dom) : FdOk (fun r => if r = k then true else f r) dom (if k ∈ ks then ks else ks ++ [k]) :=
  ⟨put_nodup h.nd k, fun r => by
    rw [mem_put, h.is]
    by_cases e : r = k
    · simp [e]
    · simp [e], fun r hr => by
    rcases mem_put.mp hr with z | z
    · exact h.dm r z
    · exact z ▸ hk⟩
theorem FdOk.drop {f : Int → Bool} {dom ks : List Int} (h : FdOk f dom ks) (k : Int) : FdOk (fun r => if r = k then false else f r) dom (ks.filter fun n => decide (n ≠ k)) :=
  ⟨h.nd.sublist List.filter_sublist, fun r => by
    rw [List.mem_filter, h.is]
    by_cases e : r = k
    · simp [e]
    · simp [e], fun r hr => h.dm r (List.mem_filter.mp hr).1⟩
abbrev tt : Int → V := fun _ => .bl true
theorem putK_tt (k : Int) (ks : List Int) : putK (kvsOf ks tt) (Sum.inl k) (.bl true) = kvsOf (if k ∈ ks then ks else ks ++ [k]) tt := by
  rw [putK_kvs]
  exact kvs_congr fun n _ => by
    show (if n = k then V.bl true else .bl true) = .bl true
    split <;> rfl
theorem kvs_snoc (ks : List Int) (g : Int → V) (k : Int) (h : k ∉ ks) : putK (kvsOf ks g) (Sum.inl k) (g k) = kvsOf (ks ++ [k]) g := by
  rw [putK_kvs, if_neg h]
  exact kvs_congr fun n _ => by
    show (if n = k then g k else g n) = g n
    split
    · rename_i e
      rw [e]
    · rfl
theorem nodup_inj {ns : List Int} (h : ns.Nodup) {i j : Nat} (hi : i < ns.length) (hj : j < ns.length) (e : ns[i] = ns[j]) : i = j := by
  have hp := List.pairwise_iff_getElem.mp h
  rcases Nat.lt_trichotomy i j with z | z | z
  · exact absurd e (hp i j hi hj z)
  · exact z
  · exact absurd e.symm (hp j i hj hi z)
theorem nodup_take {ns : List Int} (h : ns.Nodup) (i : Nat) {x : Int} (hx : ns[i]? = some x) : x ∉ ns.take i := fun m => by
  obtain ⟨j, hj, e⟩ := List.getElem_of_mem m
  rw [List.length_take] at hj
  rw [List.getElem_take] at e
  obtain ⟨hi, e2⟩ := List.getElem?_eq_some_iff.mp hx
  have := nodup_inj h (i := j) (j := i) (by omega) hi (by rw [e, e2])
  omega
theorem idx_of {ns : List Int} (h : ns.Nodup) {i : Nat} {x : Int} (hx : ns[i]? = some x) : ns.idxOf x = i := by
  obtain ⟨hi, e2⟩ := List.getElem?_eq_some_iff.mp hx
  have hm : x ∈ ns := List.mem_of_getElem? hx
  have hlt := List.idxOf_lt_length_of_mem hm
  exact nodup_inj h (i := ns.idxOf x) (j := i) hlt hi (by rw [List.getElem_idxOf, e2])
theorem take_snoc {α : Type} {ns : List α} {i : Nat} {x : α} (hx : ns[i]? = some x) : ns.take (i + 1) = ns.take i ++ [x] := by
  rw [List.take_add_one, hx]
  rfl
theorem foldl_take {α β : Type} {f : β → α → β} {b : β} {cs : List α} {i : Nat} {c : α} (h : cs[i]? = some c) : (cs.take (i + 1)).foldl f b = f ((cs.take i).foldl f b) c := by
  rw [take_snoc h, List.foldl_append]
  rfl
theorem peBMK {X : Cx} {K : PySem.W.Frag} (h : X.K = K) {e : Expr} {T : String} {r : V → List V → Hp → VK → Prop} {to : TE} {t : TA} (p : PE X e (tBM X.K T r to t)) : PE X e (tBM K T r to t) := h ▸ p
theorem peBM0K {X : Cx} {K : PySem.W.Frag} (h : X.K = K) {e : Expr} {T : String} {r : V → List V → Hp → VK → Prop} {to : TE} (p : PE X e (tBM0 X.K T r to)) : PE X e (tBM0 K T r to) := h ▸ p
section
variable {X : Cx} {e : Expr} {te : L2.St → Hp → (Int → Int → Hp → Prop) → Prop}
def tCutR (te : L2.St → Hp → (Int → Int → Hp → Prop) → Prop) : L2.St → Hp → (Int → Int → Hp → Prop) → Prop := fun σ H Q => ∃ M : Int → Int → Hp → Prop, te σ H M ∧ ∀ a b H', M a b H' → Q a b H'
theorem prg_cut (h : PRg X e te) : PRg X e (tCutR te) := fun pins s σ H Q I ⟨M, hm, hq⟩ => thn (h pins s σ H M I hm) fun x s1 ⟨r, a, b, t, u, v, H', e1, e2, I1, q⟩ => ⟨r, a, b, t, u, v, H', e1, e2, I1, hq a b H' q⟩
def tLstRgG (te : L2.St → Hp → (Int → Int → Hp → Prop) → Prop) : TE := fun σ H Q => te σ H fun a b H1 => RgOk a b ∧ New (.lst (rgV a b)) H1 Q
/-- list(range(..)) -/
theorem pe_listRgG {p pos : Pos} (hc : X.calm = true) (hg : Gl X "list") (hm : X.mg "list" = none) (he : PRg X e te) (na : PySem.starEach [e] X.env = (false, PySem.eval e X.env) :: PySem.starEach [] X.env := by rfl) : PE X (.Call (.Name "list" p) [e] [] pos) (tLstRgG te) :=
  pe_weak (pe_listRg hc hg hm (prg_cut he) na) fun σ H Q q => ⟨_, q, fun _ _ _ z => ⟨z.1, fun p hp => z.2.go p hp⟩⟩
/-- the ints 0 .. n - 1 -/
def upN (n : Nat) : List Int := (List.range n).map fun i => ((i : Nat) : Int)
theorem rgV_upN (n : Nat) : rgV 0 (n : Int) = (upN n).map V.int := by
  unfold rgV upN
  rw [List.map_map]
  have e : ((n : Int) - 0).toNat = n := by omega
  rw [e]
  exact List.map_congr_left fun i _ => by
    show V.int (0 + (i : Int)) = V.int (i : Int)
    rw [Int.zero_add]
theorem upN_len (n : Nat) : (upN n).length = n := by
  unfold upN
  rw [List.length_map, List.length_range]
theorem upN_mem {n : Nat} {r : Int} (h : r ∈ upN n) : 0 ≤ r ∧ r < n := by
  unfold upN at h
  obtain ⟨i, hi, rfl⟩ := List.mem_map.mp h
  have := List.mem_range.mp hi
  omega
theorem upN_nodup (n : Nat) : (upN n).Nodup := by
  unfold upN
  show List.Pairwise _ _
  rw [List.pairwise_map]
  exact List.nodup_range.imp fun h => by omega
end
end My
set_option Elab.async false
set_option linter.all false
set_option maxRecDepth 100000
set_option maxHeartbeats 4000000
/-! repr: how long what is shown can be; repr of any data without dicts. -/
namespace My
open PySem PySem.Spec PyProof.Rows L2
/-- data that can be shown, no deeper than n, in at most M signs -/
structure Shw (d : PyData) (n M : Nat) : Prop where
  sh : d.showable = true
  nd : d.hasDict = false
  dp : d.depth ≤ n
  ln : d.shown.length ≤ M
theorem Shw.mono {d : PyData} {n m M L : Nat} (h : Shw d n M) (h1 : n ≤ m) (h2 : M ≤ L) : Shw d m L := ⟨h.sh, h.nd, Nat.le_trans h.dp h1, Nat.le_trans h.ln h2⟩
theorem log_of {i : Int} (h : i.natAbs < 2 ^ 1900) : i.natAbs.log2 < 1920 := by
  have := PySem.Flt.log2_lt_of (k := 1900) (by decide) h
  omega
theorem Shw.int {i : Int} (h : i.natAbs.log2 < 1920) : Shw (.int i) 0 1921 := ⟨decide_eq_true h, rfl, Nat.le_refl _, by
  show (Str.ofString (toString i)).length ≤ 1921
  rw [PySem.ofString_length]
  exact int_text_length_le (k := 1920) (by decide) h⟩
theorem Shw.none : Shw .none 0 4 := ⟨rfl, rfl, Nat.le_refl _, by decide⟩
theorem Shw.bool (b : Bool) : Shw (.bool b) 0 5 := ⟨rfl, rfl, Nat.le_refl _, by cases b <;> decide⟩
theorem textFrom_le : ∀ (ts : List Str) (k : Nat) (acc : Str), (textFrom k acc ts).length ≤ acc.length + piled ts
  | [], k, acc => by
    show acc.length ≤ acc.length + piled []
    omega
  | t :: r, k, acc => by
    have ih := textFrom_le r (k + 1) (acc ++ (if k > 0 then ", " else "" : String) ++ t)
    have l2 : (if k > 0 then 2 else 0) ≤ 2 := by split <;> omega
    have e : (acc ++ (if k > 0 then ", " else "" : String) ++ t).length = acc.length + (if k > 0 then 2 else 0) + t.length := by
      rw [Str.length_append, Str.length_append]
      split <;> rfl
    rw [e] at ih
    show (textFrom (k + 1) (acc ++ (if k > 0 then ", " else "" : String) ++ t) r).length ≤ _
    rw [piled_cons]
    omega
theorem piled_le {M : Nat} : ∀ ts : List Str, (∀ t ∈ ts, t.length ≤ M) → piled ts ≤ ts.length * (M + 2)
  | [], _ => Nat.zero_le _
  | t :: r, h => by
    have ih := piled_le r fun x hx => h x (List.mem_cons_of_mem _ hx)
    have := h t List.mem_cons_self
    rw [piled_cons, List.length_cons, Nat.succ_mul]
    omega
theorem all_of {n M : Nat} : ∀ {xs : List PyData}, (∀ x ∈ xs, Shw x n M) → PyData.showableAll xs = true ∧ PyData.hasDictAll xs = false ∧ PyData.depthAll xs ≤ n ∧ (PyData.shownAll xs).length = xs.length ∧ ∀ t ∈ PyData.shownAll xs, t.length ≤ M
  | [], _ => ⟨rfl, rfl, Nat.zero_le _, rfl, fun t ht => by cases ht⟩
  | x :: xs, h => by
    obtain ⟨h1, h2, h3, h4, h5⟩ := all_of (xs := xs) fun y hy => h y (List.mem_cons_of_mem _ hy)
    have hx := h x List.mem_cons_self
    refine ⟨?_, ?_, ?_, ?_, fun t ht => ?_⟩
    · show (PyData.showable x && PyData.showableAll xs) = true
      rw [hx.sh, h1]
      rfl
    · show (PyData.hasDict x || PyData.hasDictAll xs) = false
      rw [hx.nd, h2]
      rfl
    · exact Nat.max_le.mpr ⟨hx.dp, h3⟩
    · show (PyData.shownAll xs).length + 1 = xs.length + 1
      rw [h4]
    · rcases List.mem_cons.mp (show t ∈ PyData.shown x :: PyData.shownAll xs from ht) with z | z
      · rw [z]
        exact hx.ln
      · exact h5 t z
theorem Shw.list {n M : Nat} {xs : List PyData} (h : ∀ x ∈ xs, Shw x n M) : Shw (.list xs) (n + 1) (2 + xs.length * (M + 2)) := by
  obtain ⟨h1, h2, h3, h4, h5⟩ := all_of h
  refine ⟨h1, h2, by show PyData.depthAll xs + 1 ≤ n + 1; omega, ?_⟩
  show (textFrom 0 "[" (PyData.shownAll xs) ++ ("]" : Str)).length ≤ _
  have a := textFrom_le (PyData.shownAll xs) 0 "["
  have b := piled_le _ h5
  have e1 : ((("[" : String) : Str)).length = 1 := rfl
  have e2 : ((("]" : String) : Str)).length = 1 := rfl
  rw [Str.length_append, e2]
  rw [e1] at a
  rw [h4] at b
  omega
theorem Shw.tuple {n M : Nat} {xs : List PyData} (h : ∀ x ∈ xs, Shw x n M) : Shw (.tuple xs) (n + 1) (3 + xs.length * (M + 2)) := by
  obtain ⟨h1, h2, h3, h4, h5⟩ := all_of h
  refine ⟨h1, h2, by show PyData.depthAll xs + 1 ≤ n + 1; omega, ?_⟩
  show (tupleText (PyData.shownAll xs)).length ≤ _
  have b := piled_le _ h5
  unfold tupleText
  rw [Str.length_append, Str.length_append]
  have e1 : ((("(" : String) : Str)).length = 1 := rfl
  have e3 : (((if (PyData.shownAll xs).length == 1 then ",)" else ")" : String) : Str)).length ≤ 2 := by split <;> decide
  rw [e1]
  rw [h4] at b
  by_cases z : PyData.shownAll xs = []
  · rw [z] at e3 ⊢
    have : (Str.join ", " ([] : List Str)).length = 0 := rfl
    omega
  · have := join_length_add _ z
    omega
/-- ints within some bits -/
def Bd (b : Nat) (ns : List Int) : Prop := ∀ n ∈ ns, n.natAbs < 2 ^ b
theorem Shw.ints {b : Nat} {ns : List Int} (hb : b ≤ 1900) (h : Bd b ns) : Shw (eL PyData.int ns) 1 (2 + ns.length * 1923) := by
  have := Shw.list (n := 0) (M := 1921) (xs := ns.map PyData.int) fun x hx => by
    obtain ⟨n, hn, rfl⟩ := List.mem_map.mp hx
    exact Shw.int (log_of (Nat.lt_of_lt_of_le (h n hn) (Nat.pow_le_pow_right (by decide) hb)))
  rw [List.length_map] at this
  exact this
section
variable {X : Cx}
/-- repr of any data without dicts -/
def rReprA (K : PySem.W.Frag) : List V → Hp → VK → Prop := fun vs H Q => ∃ (v : V) (d : PyData), vs = [v] ∧ Dp K H v d ∧ Shw d 60 sizeLine ∧ Q (.str d.shown) H
theorem cr_reprA (gd : X.A.guards = some []) (hu : X.A.units + 64 < cLine) : CallR X (.builtin "repr") (rReprA X.K) := by
  intro pins s σ H vs us Q I r h
  obtain ⟨v, d, rfl, hd, sw, q⟩ := h
  obtain ⟨u, rfl, ru⟩ := vals1 r
  cases hd with
  | non =>
    cases ru
    exact PySem.P.repr_of_none ⟨.str _, H, I.tok _, ⟨_, rfl⟩, q⟩
  | bl b =>
    cases ru
    exact PySem.P.repr_of_bool ⟨.str _, H, I.tok _, ⟨_, rfl⟩, q⟩
  | int i =>
    obtain ⟨t, rfl⟩ := ru
    exact PySem.P.repr_of_int (of_decide_eq_true sw.sh) ⟨.str _, H, I.tok _, ⟨_, rfl⟩, q⟩
  | str x =>
    obtain ⟨t, rfl⟩ := ru
    exact PySem.P.repr_of_str ⟨.str _, H, I.tok _, ⟨_, rfl⟩, q⟩ sw.ln
  | lst h1 h2 => exact cr_repr gd hu pins s σ H _ _ Q I r ⟨_, _, rfl, .lst h1 h2, sw.sh, sw.nd, sw.dp, sw.ln, ⟨_, rfl⟩, q⟩
  | tup h1 h2 => exact cr_repr gd hu pins s σ H _ _ Q I r ⟨_, _, rfl, .tup h1 h2, sw.sh, sw.nd, sw.dp, sw.ln, ⟨_, rfl⟩, q⟩
end
end My
set_option Elab.async false
set_option linter.all false
set_option maxRecDepth 100000
set_option maxHeartbeats 4000000
/-! Own classes: len(o) by an own __len__, o == p and o != p by an own __eq__. -/
namespace My
open PySem PySem.Spec PyProof.Rows L2
section
variable {X : Cx} {CX : CXT} {n : Nat} {f C : Addr} {fd : FuncData} {ps : List Str} {sp : Sp} {E : XK}
/-- a def called with an around one deeper; what is raised does not leave -/
theorem run_in1 {pins : List (Addr × Obj)} {σ : L2.St} {H : Hp} {s : Shared} {Q : VK} {E' : Value → Shared → Prop} {us : List Value} {vs : List V} (F : FnOk X.prog X.w X.K X.mg X.base CX n f fd ps sp) (hr : Room (n + 1) X.A) (hb : Binds X.K fd ps []) (hx : Passes CX X.nox E)
    (I : Inv X pins σ H s) (r : Vals vs us) (h : sp vs H Q E) : wpAny (model X.prog X.w) X.A.in1 (call (.ref f) us) (EP X pins σ Q) E' s := by
  have hl : us.length = ps.length := by rw [← r.length]; exact F.len _ _ _ _ h
  have hb' := hb s us I.kIn (by rw [List.append_nil]; exact hl)
  rw [List.append_nil] at hb'
  refine wpAny_call (codeAny_mono (F.run X.A.in1 X.stack s H ⟨us, []⟩ us vs Q E hr.in1 I.env0.in1 hb' r h) fun r s' hq => ?_)
  cases r with
  | error er => exact False.elim (hx pins σ H s er s' (I.wish _) hq)
  | ok fl =>
    cases fl with
    | ret u => exact I.after hq
    | next => exact False.elim hq
    | brk => exact False.elim hq
    | cont => exact False.elim hq
def rLenO (C : Addr) (sp : Sp) (E : XK) : List V → Hp → VK → Prop := fun vs H Q => ∃ a dx fs, vs = [V.ref a] ∧ H a = some (.ins C dx fs) ∧ sp [.ref a] H (fun v H' => ∃ m : Int, v = .int m ∧ 0 ≤ m ∧ m < 2 ^ 63 ∧ Q (.int m) H') E
theorem cr_lenO (F : FnOk X.prog X.w X.K X.mg X.base CX n f fd ps sp) (hr : Room (n + 1) X.A) (hs : PySem.W.findIn X.K (.ref C) "__len__" = some (some (.ref f))) (hf : PySem.W.isFn X.K (.ref f) = true) (hb : Binds X.K fd ps []) (hx : Passes CX X.nox E) : CallR X (.builtin "len") (rLenO C sp E) := by
  intro pins s σ H vs us Q I r h
  obtain ⟨a, dx, fs, rfl, ha, h⟩ := h
  rw [Vals.ref1 r]
  obtain ⟨mA, J, _⟩ := ins_get I.hok ha
  obtain ⟨od, J, _⟩ := J.look
  obtain ⟨m, hF⟩ := I.fr
  refine PySem.W.len_K hF I.ok.mod.kin J hs hf (wpAny_mono (run_in1 (vs := [V.ref a]) F hr hb hx I (.cons rfl .nil) h) (fun u s' z => ?_) fun _ _ e => e)
  obtain ⟨v, H', I', rv, m, rfl, m0, m1, q⟩ := z
  obtain ⟨t, rfl⟩ := rv
  exact ⟨⟨m0, m1⟩, .int m, H', I'.tok _, ⟨_, rfl⟩, q⟩
def rEqO (C : Addr) (sp : Sp) (E : XK) : R2 := fun x y H Q => ∃ a b dx fs dy gs, x = .ref a ∧ y = .ref b ∧ H a = some (.ins C dx fs) ∧ H b = some (.ins C dy gs) ∧ sp [.ref a, .ref b] H (fun v H' => ∃ r : Bool, v = .bl r ∧ Q (.bl r) H') E
def rNeO (C : Addr) (sp : Sp) (E : XK) : R2 := fun x y H Q => ∃ a b dx fs dy gs, x = .ref a ∧ y = .ref b ∧ H a = some (.ins C dx fs) ∧ H b = some (.ins C dy gs) ∧ sp [.ref a, .ref b] H (fun v H' => ∃ r : Bool, v = .bl r ∧ Q (.bl (!r)) H') E
theorem run_here {pins : List (Addr × Obj)} {σ : L2.St} {H : Hp} {s : Shared} {Q : VK} {us : List Value} {vs : List V} (F : FnOk X.prog X.w X.K X.mg X.base CX n f fd ps sp) (hr : Room n X.A) (hb : Binds X.K fd ps []) (hx : Passes CX X E)
    (I : Inv X pins σ H s) (r : Vals vs us) (h : sp vs H Q E) : wpAny (model X.prog X.w) X.A (call (.ref f) us) (EP X pins σ Q) X.xe s := by
  have hl : us.length = ps.length := by rw [← r.length]; exact F.len _ _ _ _ h
  have hb' := hb s us I.kIn (by rw [List.append_nil]; exact hl)
  rw [List.append_nil] at hb'
  refine wpAny_call (codeAny_mono (F.run X.A X.stack s H ⟨us, []⟩ us vs Q E hr I.env0 hb' r h) fun r s' hq => ?_)
  cases r with
  | error er => exact hx pins σ H s er s' I hq
  | ok fl =>
    cases fl with
    | ret u => exact I.after hq
    | next => exact False.elim hq
    | brk => exact False.elim hq
    | cont => exact False.elim hq
theorem op_eqO (F : FnOk X.prog X.w X.K X.mg X.base CX n f fd ps sp) (hr : Room n X.A) (hs : PySem.W.findIn X.K (.ref C) "__eq__" = some (some (.ref f))) (hf : PySem.W.isFn X.K (.ref f) = true) (hb : Binds X.K fd ps []) (hx : Passes CX X E) : OpR X (compareOp .Eq) (rEqO C sp E) := by
  intro pins s σ H x y v u Q I rx ry h
  obtain ⟨a, b, dx, fs, dy, gs, rfl, rfl, ha, hb', h⟩ := h
  cases rx
  cases ry
  obtain ⟨mA, J, _⟩ := ins_get I.hok ha
  obtain ⟨mB, J', _⟩ := ins_get I.hok hb'
  obtain ⟨od, J, _⟩ := J.look
  obtain ⟨od', J', _⟩ := J'.look
  obtain ⟨m, hF⟩ := I.fr
  show wpAny (model X.prog X.w) X.A (richCompare .Eq (.ref a) (.ref b)) (EP X pins σ Q) X.xe s
  refine PySem.W.cmp_K (op := .Eq) (tb := .ref C) hr.units0 hF I.ok.mod.kin J J'.type (by simp [PySem.W.notFirst]) hs hf ?_
  refine wpAny_mono (run_here (vs := [V.ref a, V.ref b]) F hr hb hx I (.cons rfl (.cons rfl .nil)) h) (fun u s' z => ?_) fun _ _ e => e
  obtain ⟨v, H', I', rv, r, rfl, q⟩ := z
  cases rv
  exact ⟨.bl r, H', I', rfl, q⟩
theorem ifBound_objNe {M : Model} {A : Around} {E : Value → Shared → Prop} {s : Shared} {K : PySem.W.Frag} {x C : Addr} {ox : Obj} {od : Option Obj} {args : List Value} {Q : Option Value → Shared → Prop} (KX : K.In s.heap) (I : PySem.W.InstAt s.heap x ox C od) (hs : PySem.W.findIn K (.ref C) "__ne__" = some (some (.builtin "object.__ne__")))
    (h : wpAny M A (call (.builtin "object.__ne__") (.ref x :: args)) (fun v => Q (some v)) E s) : wpAny M A (callSpecialIfBound? (.ref x) "__ne__" args) Q E s := by
  simp only [callSpecialIfBound?, bindSpecialIfBound?]
  refine wpAny_holding (wpAny_bind (wpAny_bind (wpAny_bind (I.type.here ((PySem.W.looks_findIn KX hs).here ?_)))))
  refine wpAny_bind (wpAny_askSetting (wpAny_ite ?_))
  have fin : wpAny M A (call (.builtin "object.__ne__") ([.ref x] ++ args) >>= fun v => pure (some v)) Q E s := wpAny_bind (wpAny_mono h (fun v s' h' => wpAny_pure h') fun _ _ h' => h')
  split
  · exact wpAny_bind (wpAny_of_eq (F.cmp_object.ne.bind _) (wpAny_pure (by exact fin)))
  · exact wpAny_tryCatch (wpAny_bind (wpAny_of_eq (F.cmp_object.ne.bind _) (wpAny_pure (by exact fin))))
theorem op_neO (F : FnOk X.prog X.w X.K X.mg X.base CX n f fd ps sp) (hr : Room (n + 1) X.A) (hs : PySem.W.findIn X.K (.ref C) "__eq__" = some (some (.ref f))) (hn : PySem.W.findIn X.K (.ref C) "__ne__" = some (some (.builtin "object.__ne__"))) (hm : PySem.W.mroIn X.K C (.type "object") = some true) (hf : PySem.W.isFn X.K (.ref f) = true) (hb : Binds X.K fd ps []) (hx : Passes CX X.nox E) : OpR X (compareOp .NotEq) (rNeO C sp E) := by
  intro pins s σ H x y v u Q I rx ry h
  obtain ⟨a, b, dx, fs, dy, gs, rfl, rfl, ha, hb', h⟩ := h
  cases rx
  cases ry
  obtain ⟨mA, J, _⟩ := ins_get I.hok ha
  obtain ⟨mB, J', _⟩ := ins_get I.hok hb'
  obtain ⟨od, J, _⟩ := J.look
  obtain ⟨od', J', _⟩ := J'.look
  have KX := I.kIn
  show wpAny (model X.prog X.w) X.A (richCompare .NotEq (.ref a) (.ref b)) (EP X pins σ Q) X.xe s
  have one : wpAny (model X.prog X.w) X.A (tryCompare (.ref a) "__ne__" (.ref b)) (fun r s' => ∃ v, r = some v ∧ EP X pins σ Q v s') X.xe s := by
    unfold tryCompare
    refine wpAny_bind (ifBound_objNe KX J hn ?_)
    refine wpAny_call (codeAny_call_builtin PySem.F.cmp_object.ne.plain PySem.F.cmpEntry_ne (PySem.W.check_slot PySem.F.cmpKind_ne PySem.F.cmpSplit_ne (J.type.andThen (PySem.W.looks_mroIn KX hm)) (PySem.F.cmpArgs_ne _ _) ?_))
    unfold Builtin.«object.__ne__»
    refine wpAny_bind (wpAny_pure ?_)
    refine wpAny_bind (wpAny_cRoomFor (hr.in1).units0 ?_)
    refine wpAny_bind (m := callSpecialIfBound? (.ref a) (Str.ofString "__eq__") _) (PySem.W.ifBound_K KX J hs hf (wpAny_mono (run_in1 (vs := [V.ref a, V.ref b]) F hr hb hx I (.cons rfl (.cons rfl .nil)) h) (fun u s' z => ?_) fun _ _ e => e))
    obtain ⟨v, H', I', rv, r, rfl, q⟩ := z
    cases rv
    show wpAny _ X.A.in1 (truthy (.bool r) >>= _) _ _ s'
    refine wpAny_bind (wpAny_truthy_bool ?_)
    refine wpAny_pure ?_
    show wpAny _ X.A _ _ _ s'
    exact wpAny_pure ⟨_, rfl, .bl (!r), H', I', rfl, q⟩
  unfold richCompare
  simp only [oneThing_ref]
  refine wpAny_holding (wpAny_bind (wpAny_cRoomFor hr.units0 ?_))
  refine wpAny_bind (J.type.here (wpAny_bind (J'.type.here ?_)))
  split
  · rename_i q
    simp at q
  · refine wpAny_bind (wpAny_pure ?_)
    simp only [Bool.false_eq_true, if_false]
    refine wpAny_bind (wpAny_mono one (fun r s' z => ?_) fun _ _ e => e)
    obtain ⟨v, rfl, hq⟩ := z
    exact wpAny_pure hq
theorem pe_fldK {K : PySem.W.Frag} (h : X.K = K) {e : Expr} {g : Str} {ta : TE} (p : PE X e (tFld X.K ta g)) : PE X e (tFld K ta g) := h ▸ p
/-- tuple(x): of a list a new one, of a tuple itself -/
def rTupleA (K : PySem.W.Frag) : List V → Hp → VK → Prop := fun xs H Q => ∃ p ys, xs = [V.ref p] ∧ ((SqL K H p ys ∧ New (.tup ys) H Q) ∨ (SqT K H p ys ∧ Q (.ref p) H))
theorem call_tupleA : CallR X (.type "tuple") (rTupleA X.K) := fun pins s σ H xs us Q I r ⟨p, ys, h1, h2⟩ => call_tuple_of pins s σ H xs us Q I r ⟨p, ys, h1, h2.imp (fun z => ⟨z.1, fun l hl => z.2.go l hl⟩) id⟩
end
end My
set_option Elab.async false
set_option linter.all false
set_option maxRecDepth 100000
set_option maxHeartbeats 4000000
/-! sorted(xs) of any alike data (tuples, lists, texts, ints, nested), as a rule of the hand layer. -/
namespace My
open PySem PySem.Spec PyProof.Rows L2
open PySem.W (EachIs AllAlike Sortable dataKind sortVals KeyedOut dataLe)
/-- the values sorted by their data -/
def zsort (xs : List V) (ds : List PyData) : List V := ((xs.zip ds).mergeSort (dataLe false (·.2))).map (·.1)
def dsort (ds : List PyData) : List PyData := ds.mergeSort (dataLe false fun d => d)
theorem zsort_len {xs : List V} {ds : List PyData} (h : xs.length = ds.length) : (zsort xs ds).length = xs.length := by
  unfold zsort
  rw [List.length_map, List.length_mergeSort, List.length_zip, h, Nat.min_self]
theorem each_reads {h : Heap} : ∀ {vs : List Value} {ds : List PyData} {as : List Addr}, ReadsAll h vs ds as → EachIs (fun v d => ∃ as, Reads h v d as) vs ds
  | _, _, _, .nil => .nil
  | _, _, _, .cons h t => .cons ⟨_, h⟩ (each_reads t)
theorem each_vals : ∀ {us : List Value} {ps : List (V × PyData)}, EachIs (fun (u : Value) (p : V × PyData) => RelV p.1 u) us ps → Vals (ps.map (·.1)) us
  | _, _, .nil => .nil
  | _, _, .cons h t => .cons h (each_vals t)
theorem each_zip : ∀ {xs : List V} {us : List Value} {ds : List PyData}, Vals xs us → xs.length = ds.length → EachIs (fun (u : Value) (p : V × PyData) => RelV p.1 u) us (xs.zip ds)
  | _, _, [], .nil, _ => .nil
  | _, _, _ :: _, .nil, h => by cases h
  | _, _, [], .cons _ _, h => by cases h
  | _, _, _ :: _, .cons h t, e => .cons h (each_zip t (by simpa using e))
theorem dpLen {K : PySem.W.Frag} {H : Hp} : ∀ {xs : List V} {ds : List PyData}, DpAll K H xs ds → xs.length = ds.length
  | _, _, .nil => rfl
  | _, _, .cons _ t => by simp [dpLen t]
section
variable {X : Cx}
def rSortedA (K : PySem.W.Frag) : List V → Hp → VK → Prop := fun vs H Q => ∃ (a : Addr) (xs : List V) (ds : List PyData), vs = [V.ref a] ∧ SqL K H a xs ∧ DpAll K H xs ds ∧ AllAlike ds ∧ Sortable ds ∧ (∀ d ∈ ds, d.depth ≤ 60) ∧ New (.lst (zsort xs ds)) H Q
theorem cr_sortedA (hu : X.A.units + 64 < cLine) : CallR X (.builtin "sorted") (rSortedA X.K) := by
  intro pins s σ H vs us Q I r h
  obtain ⟨a, xs, ds, rfl, hs, hd, hal, hso, hdep, q⟩ := h
  obtain ⟨its, rv, hl, hz⟩ := I.list hs
  rw [Vals.ref1 r]
  obtain ⟨as, hr⟩ := Dp.readsAll I ds xs its hd rv
  have hlen := dpLen hd
  have e0 := each_reads hr
  have e1 : EachIs (fun v d => ∃ as, Reads (PySem.W.sortingHeap (PySem.W.copyHeap s.heap its) (s.heap.objs.size + 1) its) v d as) its ds := e0.mono fun v d ⟨as, z⟩ => ⟨as, Reads.keeps (fun b o e => PySem.W.sorting_copy_old e) z⟩
  refine PySem.W.sorted_vals (κ := dataKind (PySem.W.sortingHeap (PySem.W.copyHeap s.heap its) (s.heap.objs.size + 1) its) ds) hl.isList (PySem.W.SortsAt.data (s := { s with heap := PySem.W.sortingHeap (PySem.W.copyHeap s.heap its) (s.heap.objs.size + 1) its }) e1 hal hso fun d m => ?_) (by rw [← rv.length]; exact hz) ?_
  · show X.A.units + 1 + 1 + d.depth < cLine
    have := hdep d m
    omega
  · have ez : (xs.zip ds).map (·.2) = ds := by
      rw [← List.zip_unzip (xs.zip ds)]
      simp [List.map_snd_zip, hlen]
    have ko : KeyedOut false ((xs.zip ds).map (·.2)) its (sortVals (dataKind (PySem.W.sortingHeap (PySem.W.copyHeap s.heap its) (s.heap.objs.size + 1) its) ds) false its its) := by
      rw [ez]
      exact ⟨_, its, hal, rfl, e1⟩
    have ev := each_vals (PySem.W.keyedOut_each (·.2) ko (each_zip rv hlen))
    obtain ⟨n, hn⟩ := sortedAll_at s.heap its (sortVals (dataKind (PySem.W.sortingHeap (PySem.W.copyHeap s.heap its) (s.heap.objs.size + 1) its) ds) false its its).toArray
    refine ⟨.ref _, upd H _ (.lst (zsort xs ds)), I.laid (t' := s.toks) (fun b o e => sortedAll_old e) (Nat.le_succ _) ⟨?_, _, n, ev, hn⟩, rfl, q.go _ (I.hok.fresh (Nat.le_succ _))⟩
    rw [zsort_len hlen]
    exact hz
/-- xs[::-1] -/
def tRevG (K : PySem.W.Frag) (te : TE) : TE := fun σ H Q => te σ H fun x H1 => ∃ a xs, x = .ref a ∧ SqL K H1 a xs ∧ New (.lst xs.reverse) H1 Q
theorem pe_revG {e : Expr} {te : TE} {k : Nat} {p1 p2 p3 pos : Pos} (he : PE X e te) : PE X (.Subscript e (.Slice none none (some (.UnaryOp .USub (.Constant (.int 1) k p1) p2)) p3) pos) (tRevG X.K te) :=
  pe_weak (pe_revL (pe_cut he)) fun σ H Q q => ⟨_, q, fun _ _ ⟨a, xs, h1, h2, h3⟩ => ⟨a, xs, h1, h2, fun p hp => h3.go p hp⟩⟩
theorem pe_revK {K : PySem.W.Frag} (h : X.K = K) {e : Expr} {te : TE} {k : Nat} {p1 p2 p3 pos : Pos} (he : PE X e te) : PE X (.Subscript e (.Slice none none (some (.UnaryOp .USub (.Constant (.int 1) k p1) p2)) p3) pos) (tRevG K te) := h ▸ pe_revG he
end
end My
set_option Elab.async false
set_option linter.all false
set_option maxRecDepth 100000
set_option maxHeartbeats 4000000
/-! Lists of objects, pair by pair; comprehensions that make objects; sorting of objects by their data. -/
namespace My
open PySem PySem.Spec PyProof.Rows L2
open PySem.W (AllAlike Sortable dataLe)
def AllR {α : Type} (R : V → α → Prop) (vs : List V) (xs : List α) : Prop := vs.length = xs.length ∧ ∀ (i : Nat) v x, vs[i]? = some v → xs[i]? = some x → R v x
section
variable {α β : Type} {R S : V → α → Prop} {vs us : List V} {xs ys : List α}
theorem AllR.nil : AllR R [] [] := ⟨rfl, fun i v x h => by cases h⟩
theorem AllR.mono (h : AllR R vs xs) (k : ∀ v x, R v x → S v x) : AllR S vs xs := ⟨h.1, fun i v x h1 h2 => k v x (h.2 i v x h1 h2)⟩
theorem AllR.get (h : AllR R vs xs) {i : Nat} {v : V} (hi : vs[i]? = some v) : ∃ x, xs[i]? = some x ∧ R v x := by
  have hlt : i < vs.length := (List.getElem?_eq_some_iff.mp hi).1
  have hr : xs[i]? = some (xs[i]'(by rw [← h.1]; exact hlt)) := List.getElem?_eq_getElem _
  exact ⟨_, hr, h.2 i v _ hi hr⟩
theorem AllR.row (h : AllR R vs xs) {i : Nat} {x : α} (hi : xs[i]? = some x) : ∃ v, vs[i]? = some v ∧ R v x := by
  have hlt : i < xs.length := (List.getElem?_eq_some_iff.mp hi).1
  have hr : vs[i]? = some (vs[i]'(by rw [h.1]; exact hlt)) := List.getElem?_eq_getElem _
  exact ⟨_, hr, h.2 i _ x hr hi⟩
theorem AllR.append (h : AllR R vs xs) (k : AllR R us ys) : AllR R (vs ++ us) (xs ++ ys) := by
  refine ⟨by simp [h.1, k.1], fun i v x h1 h2 => ?_⟩
  by_cases z : i < vs.length
  · rw [List.getElem?_append_left z] at h1
    rw [List.getElem?_append_left (by rw [← h.1]; exact z)] at h2
    exact h.2 i v x h1 h2
  · rw [List.getElem?_append_right (by omega)] at h1
    rw [List.getElem?_append_right (by rw [← h.1]; omega), ← h.1] at h2
    exact k.2 _ v x h1 h2
theorem AllR.one {v : V} {x : α} (h : R v x) : AllR R [v] [x] := ⟨rfl, fun i u y h1 h2 => by
  cases i with
  | zero =>
    cases h1
    cases h2
    exact h
  | succ n => cases h1⟩
theorem AllR.snoc (h : AllR R vs xs) {v : V} {x : α} (k : R v x) : AllR R (vs ++ [v]) (xs ++ [x]) := h.append (AllR.one k)
theorem AllR.take (h : AllR R vs xs) (n : Nat) : AllR R (vs.take n) (xs.take n) := by
  refine ⟨by simp [h.1], fun i v d h1 h2 => ?_⟩
  rw [List.getElem?_take] at h1 h2
  split at h1
  · rename_i z
    rw [if_pos z] at h2
    exact h.2 i v d h1 h2
  · cases h1
theorem AllR.dp {K : PySem.W.Frag} {H : Hp} {e : α → PyData} : ∀ {vs : List V} {xs : List α}, AllR R vs xs → (∀ v x, R v x → Dp K H v (e x)) → DpAll K H vs (xs.map e)
  | [], [], _, _ => .nil
  | [], _ :: _, h, _ => by cases h.1
  | _ :: _, [], h, _ => by cases h.1
  | v :: vs, x :: xs, h, k => .cons (k v x (h.2 0 v x rfl rfl)) (AllR.dp ⟨by simpa using h.1, fun i u y h1 h2 => h.2 (i + 1) u y h1 h2⟩ k)
/-- sorted objects, by the data of them -/
theorem AllR.sort (key : α → PyData) (h : AllR R vs xs) : AllR R (zsort vs (xs.map key)) (xs.mergeSort (dataLe false key)) := by
  have e1 : zsort vs (xs.map key) = ((vs.zip xs).mergeSort (fun p q => dataLe false key p.2 q.2)).map (·.1) := by
    unfold zsort
    have e : vs.zip (xs.map key) = (vs.zip xs).map (fun p => (p.1, key p.2)) := by
      rw [List.zip_map_right]
      rfl
    rw [e, ← List.map_mergeSort (r := fun p q => dataLe false key p.2 q.2) (fun _ _ _ _ => rfl), List.map_map]
    rfl
  have e2 : xs.mergeSort (dataLe false key) = ((vs.zip xs).mergeSort (fun p q => dataLe false key p.2 q.2)).map (·.2) := by
    rw [List.map_mergeSort (s := dataLe false key) (fun _ _ _ _ => rfl), List.map_snd_zip]
    rw [h.1]
    exact Nat.le_refl _
  rw [e1, e2]
  have hp := List.mergeSort_perm (vs.zip xs) (fun p q => dataLe false key p.2 q.2)
  generalize (vs.zip xs).mergeSort (fun p q => dataLe false key p.2 q.2) = Z at hp
  refine ⟨by simp, fun i v x h1 h2 => ?_⟩
  rw [List.getElem?_map] at h1 h2
  cases z : Z[i]? with
  | none => rw [z] at h1; cases h1
  | some p =>
    rw [z] at h1 h2
    cases h1
    cases h2
    have hm : p ∈ vs.zip xs := hp.mem_iff.mp (List.mem_of_getElem? z)
    obtain ⟨k, hk⟩ := List.getElem?_of_mem hm
    rw [List.getElem?_zip_eq_some] at hk
    exact h.2 k _ _ hk.1 hk.2
theorem none_of {H H' : Hp} {p : Addr} (e : Ex H H') (h : H' p = none) : H p = none := by
  cases z : H p with
  | none => rfl
  | some o => rw [e _ _ z] at h; cases h
theorem ne_some {H H' : Hp} {p D : Addr} (e : Ex H H') (h : H' p = none) (hD : H D ≠ none) : p ≠ D := fun z => hD (none_of e (z ▸ h))
/-- a comprehension without tests over a list, each element an object (or any value) that R tells -/
theorem lc_objL {K : PySem.W.Frag} {a : Addr} {xs : List V} {ys : List α} {R : Hp → V → α → Prop} {g : TG} {te : TE} {vs : List Nat} {σ : L2.St} {H1 : Hp} {D : Addr} {Qd : Hp → Prop} (hx : SqL K H1 a xs) (hD : H1 D = none) (hl : ys.length = xs.length) (hz : xs.length ≤ sizeLine)
    (st : ∀ H' H'' v y, R H' v y → Exj D H' H'' → R H'' v y)
    (he : ∀ (i : Nat) x y H', Ex H1 H' → H' D ≠ none → xs[i]? = some x → ys[i]? = some y → ∀ (N : VK) (Z : Hp → Prop), (∀ v H2, Ex H' H2 → R H2 v y → N v H2) → g x (wipe σ vs) H' fun σ2 H2 => wipe σ2 vs = wipe σ vs ∧ tYes σ2 H2 fun b H3 => if b = true then te σ2 H3 N else Z H3)
    (k : ∀ H' us, Ex H1 H' → H' D = some (.lst us) → AllR (R H') us ys → Qd H') :
    ∃ W : Nat → Nat → Hp → Prop, (∃ m, W 0 m (upd H1 D (.lst []))) ∧ ∀ i m H, W i m H →
      ((Itl K a).stop i H ∧ Qd H) ∨ ((Itl K a).go i H ∧ ∃ Nx : Hp → Prop, (∀ H', Nx H' → ∃ m', m' < m ∧ W (i + 1) m' H') ∧ ∀ x H', (Itl K a).yld i H x H' → g x (wipe σ vs) H' fun σ2 H2 => wipe σ2 vs = wipe σ vs ∧ tYes σ2 H2 fun b H3 =>
        if b = true then te σ2 H3 fun y H4 => ∃ acc, H4 D = some (.lst acc) ∧ acc.length < sizeLine ∧ Nx (upd H4 D (.lst (acc ++ [y]))) else Nx H3) := by
  refine lc_it (walk_list (K := K) (a := a) (xs := xs)) (fun i H' => ∃ us, Ex H1 H' ∧ H' D = some (.lst us) ∧ us.length = i ∧ AllR (R H') us (ys.take i)) ⟨[], Evl.Ex.new hD, upd_same, rfl, AllR.nil⟩ (fun i H' _ ⟨_, e, _⟩ => Evl.ex_l e hx) ?_ ?_
  · rintro i x H' H3 hi ⟨us, e', d', l', a'⟩ ⟨rfl, hv⟩
    have hy : ys[i]? = some (ys[i]'(by omega)) := List.getElem?_eq_getElem (by omega)
    refine he i x _ H3 e' (fun z => by rw [d'] at z; cases z) hv hy _ _ fun v H2 e2 r2 => ⟨us, e2 _ _ d', by omega, us ++ [v], Evl.Ex.mut (e'.trans e2) hD, upd_same, by simp [l'], ?_⟩
    rw [List.take_add_one, hy]
    have y1 : Exj D H2 (upd H2 D (.lst (us ++ [v]))) := (Exj.refl _ _).upd
    exact AllR.snoc (a'.mono fun u y r => st _ _ u y (st _ _ u y r (Exj.of e2)) y1) (st _ _ _ _ r2 y1)
  · rintro H' ⟨us, e', d', l', a'⟩
    rw [List.take_of_length_le (by omega)] at a'
    exact k H' us e' d' a'
end
end My
set_option Elab.async false
set_option linter.all false
set_option maxRecDepth 100000
set_option maxHeartbeats 4000000
/-! set(xs) of a list of ints as a set whose order is known; sorted(set(xs)); x in xs of nested data; a + b of own objects. -/
namespace My
open PySem PySem.Spec PyProof.Rows L2 PySem.SeqAt
abbrev nset (w : World) : Obj := { cls := .type "set", dict := none, data := .set #[] 0 (.fresh 0 0 (!w.params.followText "set-order")) }
section
variable {P : Program} {w : World} {A : Around} {E : Value → Shared → Prop} {s : Shared}
theorem call_set_lst {l : Addr} {xs : Array Value} (ns : List Int) {Q : Value → Shared → Prop} (hd : A.handled = none) (ha : s.heap.IsList l xs) (hi : IntsAre xs.toList ns) (hz : ns.length + 1 < scanBound)
    (k : ∀ (h1 : Heap) (tk c : Nat), SetR w h1 s.heap.objs.size (fun j => decide (j ∈ ns)) c → c ≤ ns.length → (∀ b o, s.heap.get? b = some o → h1.get? b = some o) → Q (.ref s.heap.objs.size) { s with heap := h1, toks := tk }) :
    wpAny (model P w) A (call (.type "set") [.ref l]) Q E s := by
  have nl : xs.size = ns.length := (Array.length_toList (xs := xs)).symm.trans hi.length
  obtain ⟨mc, ml, m0⟩ := F.called_set.mro; have m1 := F.called_set.made; have m2 := F.called_set.sub
  refine wpAny_call (codeAny_of_tree (show wpAny _ _ (callAny (.type "set") _) _ _ _ from wpAny_pure ⟨Code.quiet_builtin _ (by decide +kernel), codeAny_builtin F.entry_type_call ?_⟩))
  rw [Around.under_plain (weight_type_call_type "set" [.ref l] []) (by rfl)]
  have m3 := F.called_set.notType; have m4 := F.called_set.canCreate; have m5 := F.typeCall_set_1 (.ref l)
  repeat (any_goals (first | assumption | wp_step))
  refine codeAny_mono (code_set_led1 (.ref l) (E := E) (Q₁ := fun o s1 => o = .ref s.heap.objs.size ∧ s1 = { s with heap := s.heap.push (nset w) }) ⟨rfl, rfl⟩) fun r s1 hr => ?_
  rcases r with e | fl
  · exact hr
  rcases fl with _ | _ | _ | ob
  all_goals first | exact hr.elim | skip
  obtain ⟨rfl, rfl⟩ := hr
  have gS : (s.heap.push (nset w)).get? s.heap.objs.size = some (nset w) := Heap.get?_push_size _ rfl
  have tS : Shared.TypeIs { s with heap := s.heap.push (nset w) } (.ref s.heap.objs.size) "set" := ⟨_, gS, rfl⟩
  have m6 := F.called_set.init.lookup; have m7 := F.called_set.init.bind (.ref s.heap.objs.size)
  repeat (any_goals (first | assumption | wp_step))
  refine codeAny_mono (codeAny_call_builtin (R := wants (fun r s2 => r = .none ∧ ∃ h1 tk c, s2 = { s with heap := h1, toks := tk } ∧ SetR w h1 s.heap.objs.size (fun j => decide (j ∈ ns)) c ∧ c ≤ ns.length ∧ ∀ b o, s.heap.get? b = some o → h1.get? b = some o) E) F.called_set.init.plain F.entry_set_init (check_set_init_1 tS ?_)) fun r2 s2 hr2 => ?_
  · obtain ⟨⟨oc, od, ot, os⟩, ho, c1, m, c2⟩ := ha
    simp only at c1 c2
    subst c1; subst c2
    have ho1 : (s.heap.push (nset w)).get? l = some ⟨.type "list", od, .seq xs m, os⟩ := Heap.get?_push_of_some _ ho
    have b1 := F.sub_list_set; have b2 := F.sub_list_frozenset; have b3 : (Value.type "list" == Value.type "dict") = false := by decide
    have hl1 : (s.heap.push (nset w)).IsList l xs := ⟨_, ho1, rfl, m, rfl⟩
    unfold Builtin.«set.__init__» noKeywords Builtin.Frozenset.updateFrom
    generalize hI : pyIter = PI
    wp_walk
    subst hI
    refine wpAny_pyIter_list hl1 (wpAny_bind (wpAny_runValue ?_))
    have lS : l < s.heap.objs.size := Heap.lt_size ho
    have d3 : A.in1.in1.in1.handled = none := by simp [hd]
    have e1 : (s.heap.push (nset w)).objs.size = s.heap.objs.size + 1 := Heap.size_push ..
    have lI : l ≠ (s.heap.push (nset w)).objs.size := by rw [e1]; exact Nat.ne_of_lt (Nat.lt_succ_of_lt lS)
    have nf : s.heap.objs.size ∉ [(s.heap.push (nset w)).objs.size, l] := by
      rw [e1]; intro z
      rcases List.mem_cons.mp z with q | q
      · exact absurd q (Nat.ne_of_lt (Nat.lt_succ_self _))
      · exact absurd (List.mem_singleton.mp q) (Nat.ne_of_gt lS)
    have vs : ∀ (i : Nat) (v : Value), xs[i]? = some v → ∃ k t, ns[i]? = some k ∧ v = .int k t := fun i v hv => by
      have il : i < ns.length := nl ▸ (Array.getElem?_eq_some_iff.mp hv).1
      obtain ⟨t, e⟩ := hi.int_at i v (by simpa using hv)
      exact ⟨ns[i], t, List.getElem?_eq_getElem il, by rw [e, List.getD_eq_getElem?_getD, List.getElem?_eq_getElem il]; rfl⟩
    refine set_update_ints ((Walks.list d3 _ l lI xs).toS) s.heap.objs.size nf ns nl hz vs (xs.size - 0) 0 _ (by omega) (Nat.zero_le _) ⟨⟨_, Heap.get?_push_size _ rfl, rfl, rfl⟩, hl1.push _⟩ ⟨0, Nat.le_refl 0, setR_new_at (Heap.get?_push_of_some _ gS)⟩ ?_
    intro s3 c3 hm hc3 hS3
    obtain ⟨h3, g3, dr3, tk3, o3⟩ := s3
    have q1 : g3 = s.gens := hm.gens; have q2 : dr3 = s.drawn := hm.drawn; have q3 : o3 = s.os := hm.os
    subst q1; subst q2; subst q3
    refine (show wpAny _ _ _ _ _ _ from wpAny_pure (show wpAny _ _ (ret Value.none) _ _ _ from wpAny_pure ⟨rfl, h3, tk3, c3, rfl, hS3, nl ▸ hc3, fun b o e => ?_⟩))
    have bl : b < s.heap.objs.size := Heap.lt_size e
    refine hm.heap b o ?_ (Heap.get?_push_of_some _ (Heap.get?_push_of_some _ e))
    rw [e1]
    intro z
    rcases List.mem_cons.mp z with q | q
    · exact absurd q (Nat.ne_of_lt bl)
    · exact absurd (List.mem_singleton.mp q) (Nat.ne_of_lt (Nat.lt_succ_of_lt bl))
  · rcases r2 with e | fl
    · exact hr2
    rcases fl with _ | _ | _ | v
    all_goals first | exact hr2.elim | skip
    obtain ⟨rfl, h1, tk, c, rfl, hS, hc, hk⟩ := hr2
    repeat (any_goals (first | assumption | wp_step))
    exact k _ _ _ hS hc hk
end
section
variable {X : Cx}
/-- sorted(set(xs)) -/
def tSortSet (K : PySem.W.Frag) (ta : TE) : TE := fun σ H Q => ta σ H fun x H1 => ∃ (l : Addr) (ns : List Int), x = V.ref l ∧ SqL K H1 l (ns.map V.int) ∧ ns.length < 64 ∧ ∀ ms : List Int, ms.Pairwise (· < ·) → (∀ k, k ∈ ms ↔ k ∈ ns) → New (.lst (ms.map V.int)) H1 Q
theorem pe_sortSet {a : Expr} {ta : TE} {p p2 q pos : Pos} (hg : Gl X "sorted") (hm : X.mg "sorted" = none) (hg2 : Gl X "set") (hm2 : X.mg "set" = none) (ha : PE X a ta) (hc : X.calm = true := by rfl)
    (na : starEach [a] X.env = (false, eval a X.env) :: starEach [] X.env := by rfl) : PE X (.Call (.Name "sorted" p) [.Call (.Name "set" p2) [a] [] q] [] pos) (tSortSet X.K ta) := by
  refine ⟨fun pins s σ H Q I h => ?_⟩
  refine Call_ (ld_blt I hg hm (show bootBuiltins "sorted" = some (.builtin "sorted") by decide +kernel) (PyProof.Rows.callWith_builtin1 (PyProof.Rows.args_cons ?_ rfl) rfl rfl))
  refine Call_ (ld_blt I hg2 hm2 PyProof.Rows.boot_set (PyProof.Rows.callWith_type1 (PyProof.Rows.args_cons (thn (ha.run pins s σ H _ I h) fun v s1 ⟨x, H1, I1, r1, q1⟩ => PyProof.Rows.args_nil ?_) na) na rfl))
  obtain ⟨l, ns, rfl, hq, hz, q1⟩ := q1
  cases r1
  obtain ⟨its, r, pl, _⟩ := I1.list hq
  have hlen : its.length = ns.length := by rw [← r.length, List.length_map]
  refine call_set_lst ns (I1.ok.hd hc) pl.isList (by simpa using r.ints) (by unfold scanBound; omega) fun h1 tk c hS hc1 hk => ?_
  refine PyProof.Rows.args_nil ?_
  have I2 : Inv X pins σ H1 { s1 with heap := h1, toks := tk } := I1.kept hk
  refine sorted_set hS (I2.ok.hd hc) (by omega) fun s' p' out c' ms kp g o hp hgt hi hs hmem hl => ?_
  have ml : (ms.map V.int).length ≤ sizeLine := by rw [List.length_map, hl]; exact Nat.le_trans (show _ ≤ 64 by omega) (by decide)
  have hn : H1 p' = none := I2.hok.fresh hp
  have J : Inv X pins σ (upd H1 p' (.lst (ms.map V.int))) { ({ s1 with heap := h1, toks := tk } : Shared) with heap := s'.heap, gens := s'.gens, drawn := s'.drawn, toks := s'.toks } :=
    I2.call (ch := []) (Un.laid kp hp hn) (I2.hok.laid kp hp ⟨ml, out.toList, c', vals_of_ints hi, hgt⟩) (by rw [g]; exact I2.bare) (fun _ z => nomatch z)
  have e : s' = { ({ s1 with heap := h1, toks := tk } : Shared) with heap := s'.heap, gens := s'.gens, drawn := s'.drawn, toks := s'.toks } := by
    obtain ⟨_, _, _, _, _⟩ := s'
    cases o
    rfl
  rw [e]
  exact ⟨.ref p', _, J, rfl, (q1 ms hs (fun k => by rw [hmem]; simp)).go p' hn⟩
theorem u65 {k : Nat} {A : Around} (r : Room k A) : A.units + 65 < cLine := by have := r.un; omega
/-- x in xs, x not in xs of nested data -/
def rInD (neg : Bool) (K : PySem.W.Frag) : R2 := fun x y H Q => ∃ d ds, Dp K H x d ∧ Dp K H y (.list ds) ∧ SeqAt.shaped d = true ∧ SeqAt.shaped (.list ds) = true ∧ Q (.bl (if neg = true then !(ds.any fun e => PyData.eqv e d) else ds.any fun e => PyData.eqv e d)) H
theorem op_inD (hu : X.A.units + 65 < cLine) : OpR X (compareOp .In) (rInD false X.K) := by
  intro pins s σ H x y v u Q I rx ry ⟨d, ds, hd, he, sd, se, q⟩
  obtain ⟨as, r1⟩ := Dp.reads I d x v hd rx
  obtain ⟨bs, r2⟩ := Dp.reads I _ y u he ry
  exact in_list_reads r2 r1 (canLay_of_shaped se) (canLay_of_shaped sd) (room_in_shaped sd hu) ⟨.bl _, H, I, rfl, q⟩
theorem op_notInD (hu : X.A.units + 65 < cLine) : OpR X (compareOp .NotIn) (rInD true X.K) := by
  intro pins s σ H x y v u Q I rx ry ⟨d, ds, hd, he, sd, se, q⟩
  obtain ⟨as, r1⟩ := Dp.reads I d x v hd rx
  obtain ⟨bs, r2⟩ := Dp.reads I _ y u he ry
  exact notIn_list_reads r2 r1 (canLay_of_shaped se) (canLay_of_shaped sd) (room_in_shaped sd hu) ⟨.bl _, H, I, rfl, q⟩
variable {CX : CXT} {n : Nat} {f C : Addr} {fd : FuncData} {ps : List Str} {sp : Sp} {E : XK}
/-- a + b of an own class -/
def rAddO (C : Addr) (sp : Sp) (E : XK) : R2 := fun x y H Q => ∃ a b dx fs dy gs, x = .ref a ∧ y = .ref b ∧ H a = some (.ins C dx fs) ∧ H b = some (.ins C dy gs) ∧ sp [.ref a, .ref b] H (fun v H' => ∃ r, v = .ref r ∧ Q (.ref r) H') E
theorem op_addO (F : FnOk X.prog X.w X.K X.mg X.base CX n f fd ps sp) (hr : Room n X.A) (hs : PySem.W.findIn X.K (.ref C) "__add__" = some (some (.ref f))) (hf : PySem.W.isFn X.K (.ref f) = true) (hc : PySem.W.selfFirst X.K C = true) (hb : Binds X.K fd ps []) (hx : Passes CX X E) : OpR X (binaryOp .Add) (rAddO C sp E) := by
  intro pins s σ H x y v u Q I rx ry h
  obtain ⟨a, b, dx, fs, dy, gs, rfl, rfl, ha, hb', h⟩ := h
  cases rx
  cases ry
  obtain ⟨mA, J, _⟩ := ins_get I.hok ha
  obtain ⟨mB, J', _⟩ := ins_get I.hok hb'
  obtain ⟨od, J, _⟩ := J.look
  obtain ⟨od', J', _⟩ := J'.look
  obtain ⟨m, hF⟩ := I.fr
  refine PySem.W.binop_K (op := .Add) hF I.ok.mod.kin J J'.type hc hs hf ?_
  refine wpAny_mono (run_here (vs := [V.ref a, V.ref b]) F hr hb hx I (.cons rfl (.cons rfl .nil)) h) (fun u s' z => ?_) fun _ _ e => e
  obtain ⟨v, H', I', rv, r, rfl, q⟩ := z
  cases rv
  exact ⟨.ref r, H', I', rfl, q⟩
end
end My
set_option Elab.async false
set_option linter.all false
set_option maxRecDepth 100000
set_option maxHeartbeats 4000000
/-! [x for x in xs if t], xs a list of ints. -/
namespace My
open PySem PySem.Spec PyProof.Rows L2
theorem mapI_at {ts : List Int} {i : Nat} {x : V} (h : (ts.map V.int)[i]? = some x) : ∃ t, ts[i]? = some t ∧ x = V.int t := by
  rw [List.getElem?_map] at h
  cases q : ts[i]? with
  | none => rw [q] at h; cases h
  | some t => rw [q] at h; cases h; exact ⟨t, rfl, rfl⟩
theorem lc_filtI {K : PySem.W.Frag} {a : Addr} {ns : List Int} {p : Int → Bool} {j : Nat} {tt : TT} {te : TE} {vs : List Nat} {σ : L2.St} {H1 : Hp} {D : Addr} {Qd : Hp → Prop} (hx : SqL K H1 a (ns.map V.int)) (hD : H1 D = none) (hz : ns.length ≤ 1000)
    (hw : ∀ x, wipe ((wipe σ vs).set j (some x)) vs = wipe σ vs)
    (ht : ∀ n H', n ∈ ns → Ex H1 H' → ∀ R : Bool → Hp → Prop, (∀ H2, Ex H' H2 → R (p n) H2) → tt ((wipe σ vs).set j (some (.int n))) H' R)
    (he : ∀ n H' (N : VK), N (.int n) H' → te ((wipe σ vs).set j (some (.int n))) H' N)
    (k : ∀ H', Ex H1 H' → H' D = some (.lst ((ns.filter p).map V.int)) → Qd H') :
    ∃ W : Nat → Nat → Hp → Prop, (∃ m, W 0 m (upd H1 D (.lst []))) ∧ ∀ i m H, W i m H →
      ((Itl K a).stop i H ∧ Qd H) ∨ ((Itl K a).go i H ∧ ∃ Nx : Hp → Prop, (∀ H', Nx H' → ∃ m', m' < m ∧ W (i + 1) m' H') ∧ ∀ x H', (Itl K a).yld i H x H' → gName j x (wipe σ vs) H' fun σ2 H2 => wipe σ2 vs = wipe σ vs ∧ tt σ2 H2 fun b H3 =>
        if b = true then te σ2 H3 fun y H4 => ∃ acc, H4 D = some (.lst acc) ∧ acc.length < sizeLine ∧ Nx (upd H4 D (.lst (acc ++ [y]))) else Nx H3) := by
  refine lc_it (walk_list (K := K) (a := a) (xs := ns.map V.int)) (fun i H' => Ex H1 H' ∧ H' D = some (.lst (((ns.take i).filter p).map V.int))) ⟨Evl.Ex.new hD, upd_same⟩ (fun i H' _ z => Evl.ex_l z.1 hx) ?_ ?_
  · rintro i v HX H3 hi ⟨e3, d3⟩ ⟨rfl, hv⟩
    obtain ⟨n, hn, rfl⟩ := mapI_at hv
    rw [List.length_map] at hi
    refine ⟨hw _, ?_⟩
    show tt ((wipe σ vs).set j (some (.int n))) _ _
    refine ht n _ (List.mem_of_getElem? hn) e3 _ fun H4 e4 => ?_
    rw [take_snoc hn, List.filter_append, List.filter_cons]
    cases q : p n with
    | true =>
      refine iteT (he n _ _ ⟨_, e4 _ _ d3, ?_, Evl.Ex.mut (e3.trans e4) hD, ?_⟩)
      · rw [List.length_map]
        refine Nat.lt_of_le_of_lt (List.length_filter_le _ _) ?_
        rw [List.length_take]
        exact Nat.lt_of_le_of_lt (show _ ≤ 1000 by omega) (by decide)
      · rw [upd_same, List.map_append]
        rfl
    | false =>
      refine iteF ⟨e3.trans e4, ?_⟩
      rw [e4 _ _ d3]
      simp
  · rintro H' ⟨e', d'⟩
    rw [List.length_map, List.take_length] at d'
    exact k H' e' d'
end My
namespace My
open PySem PySem.Spec PyProof.Rows L2
/-- a walk within a comprehension -/
theorem piK {X : Cx} {K : PySem.W.Frag} {r : PySem.W.Frag → TE → TI} {tg it : Expr} {tl : TE} (h : X.K = K) (p : PI X tg it (r X.K tl)) : PI X tg it (r K tl) := h ▸ p
/-- lists of lists of ints, sorted -/
def srtL (L : List (List Int)) : List (List Int) := L.mergeSort (PySem.W.dataLe false (eL PyData.int))
theorem rowsLe : PySem.W.dataLe false (eL PyData.int : List Int → PyData) = fun p q => decide (p ≤ q) := PySem.W.dataLe_rows (β := List Int) id
theorem srtL_congr {A B : List (List Int)} (h : A.Perm B) : srtL A = srtL B := by
  unfold srtL
  rw [rowsLe]
  have pw : ∀ L : List (List Int), (L.mergeSort (fun p q => decide (p ≤ q))).Pairwise (· ≤ ·) := fun L => by
    have := List.pairwise_mergeSort (le := fun (p q : List Int) => decide (p ≤ q)) (fun a b c h1 h2 => by simp at *; exact List.le_trans h1 h2) (fun a b => by simpa using List.le_total a b) L
    exact this.imp fun h => by simpa using h
  exact List.Perm.eq_of_pairwise (le := (· ≤ ·)) (fun a b _ _ h1 h2 => List.le_antisymm h1 h2) (pw A) (pw B) ((List.mergeSort_perm _ _).trans (h.trans (List.mergeSort_perm _ _).symm))
theorem srtL_len (L : List (List Int)) : (srtL L).length = L.length := List.length_mergeSort ..
theorem inD_mem {α : Type} [DecidableEq α] {e : α → PyData} {n : Nat} (g : Good e n) (x : α) (L : List α) : ((L.map e).any fun d => PyData.eqv d (e x)) = decide (x ∈ L) := by
  rw [List.any_map, Bool.eq_iff_iff, List.any_eq_true, decide_eq_true_eq]
  constructor
  · rintro ⟨y, hy, h⟩
    have h : PyData.eqv (e y) (e x) = true := h
    rw [g.eqv] at h
    exact of_decide_eq_true h ▸ hy
  · intro h
    exact ⟨x, h, by show PyData.eqv (e x) (e x) = true; rw [g.eqv]; exact decide_eq_true rfl⟩
theorem alikeLs (cs : List (List Int)) : PySem.W.AllAlike (cs.map (eL PyData.int)) := PySem.W.AllAlike.of fun b b' => by
  unfold eL
  rw [PySem.W.alike]
  exact PySem.W.alike_ints b b'
theorem sortLs (cs : List (List Int)) : PySem.W.Sortable (cs.map (eL PyData.int)) := PySem.W.Sortable.others fun b => ⟨(by intro z; cases z), (by intro xs z; cases z)⟩
theorem depLs (cs : List (List Int)) : ∀ d ∈ cs.map (eL PyData.int), d.depth ≤ 60 := fun d hd => by
  obtain ⟨c, _, rfl⟩ := List.mem_map.mp hd
  have := (goodL goodI).dep c
  omega
end My
set_option Elab.async false
set_option linter.all false
set_option maxRecDepth 100000
set_option maxHeartbeats 4000000
/-! enumerate of a tuple. -/
namespace My
open PySem PySem.Spec PyProof.Rows L2
set_option maxHeartbeats 1000000 in
theorem meets_enumerate_newT (l : Addr) (items : Array Value) :
    Meets (Builtin.«enumerate.__new__» ⟨[.type "enumerate", .ref l], []⟩) (fun _ R s => s.heap.IsTuple l items ∧
      R (.ok (.ret (.ref (s.heap.push { cls := .type "tuple_iterator", data := .fields #[.ref l, .int 0 0] }).objs.size)))
        { s with heap := (s.heap.push { cls := .type "tuple_iterator", data := .fields #[.ref l, .int 0 0] }).push { cls := .type "enumerate", data := .fields #[.none, .bool false, .ref s.heap.objs.size, rawInt 0, .none, .none] } }) :=
  .of_wp fun prog w A R s h => by
    obtain ⟨hp, g, d, tk, os⟩ := s; obtain ⟨h1, h⟩ := h
    have hsub := sub_enumerate
    have q1 : ∀ {A' : Around} {E : Value → Shared → Prop} {Q : Value → Shared → Prop}, Q (.ref hp.objs.size) ⟨hp.push { cls := .type "tuple_iterator", data := .fields #[.ref l, .int 0 0] }, g, d, tk, os⟩ → wpAny (model prog w) A' (pyIter (.ref l)) Q E ⟨hp, g, d, tk, os⟩ :=
      fun q => (begins_tuple l items).iter prog w _ _ ⟨hp, g, d, tk, os⟩ _ h1 q
    wp_walk using q1
    refine wpAny_stack_any fun st => wpAny_pure ?_
    split
    · rename_i c _ _ _ _ _
      cases (c == Value.type "enumerate")
      · wp_walk using q1
        exact ⟨_, rfl, h⟩
      · wp_walk using q1
        exact ⟨_, rfl, h⟩
    · wp_walk using q1
      exact ⟨_, rfl, h⟩
section
variable {prog : Program} {w : World} {A : Around} {E : Value → Shared → Prop} {s : Shared}
theorem call_enumerate_tuple {l : Addr} {items : Array Value} {Q : Value → Shared → Prop} (hL : s.heap.IsTuple l items)
    (h : ∀ h', IsEnum h' (s.heap.objs.size + 1) s.heap.objs.size 0 .none → h'.IsTupleIter s.heap.objs.size l 0 → h'.objs.size = s.heap.objs.size + 2 →
      (∀ b o, s.heap.get? b = some o → h'.get? b = some o) → Q (.ref (s.heap.objs.size + 1)) { s with heap := h' }) :
    wpAny (model prog w) A (call (.type "enumerate") [.ref l]) Q E s := by
  refine callType_new F.called_enumerate (by decide) (F.typeCall_enumerate_1 _) (F.newCall_enumerate_1 _) (fun obj => F.args_object_init_2 obj _) F.entry_enumerate_new
    (meets_enumerate_newT l items) ⟨hL, ?_⟩
  have hz : (s.heap.push { cls := .type "tuple_iterator", data := .fields #[.ref l, .int 0 0] }).objs.size = s.heap.objs.size + 1 := Heap.size_push ..
  show _ ∧ _
  rw [hz]
  have he : IsEnum ((s.heap.push { cls := .type "tuple_iterator", data := .fields #[.ref l, .int 0 0] }).push
      { cls := .type "enumerate", data := .fields #[.none, .bool false, .ref s.heap.objs.size, rawInt 0, .none, .none] }) (s.heap.objs.size + 1) s.heap.objs.size 0 .none := by
    have := Heap.get?_push_size (s.heap.push { cls := .type "tuple_iterator", data := .fields #[.ref l, .int 0 0] })
      (o := { cls := .type "enumerate", data := .fields #[.none, .bool false, .ref s.heap.objs.size, rawInt 0, .none, .none] }) rfl
    rw [hz] at this; exact this
  refine ⟨⟨_, he, rfl⟩, h _ he ⟨_, Heap.get?_push_of_some _ (Heap.get?_push_size _ rfl), rfl, rfl⟩ (by rw [Heap.size_push, hz]) fun b o x => Heap.get?_push_of_some _ (Heap.get?_push_of_some _ x)⟩
end
/-- the tuple at a as it stands at each turn, each item in a new pair -/
def Itet (K : PySem.W.Frag) (a : Addr) : It :=
  ⟨fun i H => ∃ (xs : List V) (x : V), SqT K H a xs ∧ xs[i]? = some x, fun i H v H' => ∃ T x, v = .ref T ∧ H T = none ∧ H' = upd H T (.tup [.int (i : Nat), x]) ∧ ∀ xs, SqT K H a xs → xs[i]? = some x, fun i H => ∃ xs : List V, SqT K H a xs ∧ xs.length = i⟩
theorem tup_apart {h : Heap} {e it a : Addr} {items : Array Value} {n : Int} {old : Value} {i : Nat} (he : IsEnum h e it n old) (hit : h.IsTupleIter it a i) (p : h.IsTuple a items) : a ≠ it ∧ a ≠ e := by
  obtain ⟨o, ho, hc, _⟩ := p
  obtain ⟨o2, ho2, hc2, _⟩ := hit
  refine ⟨fun z => ?_, fun z => ?_⟩
  · subst z
    rw [ho] at ho2
    cases ho2
    rw [hc] at hc2
    exact absurd hc2 (by decide)
  · subst z
    have he : h.get? a = _ := he
    rw [ho] at he
    cases he
    exact absurd (show Value.type "enumerate" = Value.type "tuple" from hc) (by decide)
theorem turn_enumT {P : Program} {w : World} {K : PySem.W.Frag} {elts : List Expr} {kk : Nat} {tpos : Pos} (a e it : Addr) :
    Turn P w K (.Tuple elts kk tpos) (Itet K a) [e, it] e (fun i h => (∃ old, IsEnum h e it ((i : Nat) : Int) old) ∧ h.IsTupleIter it a i ∧ e ≠ it) where
  mem := by simp
  obj := fun i h st b hb => by
    obtain ⟨⟨old, he⟩, ⟨o, ho, hc, hd⟩, _⟩ := st
    have e' : b = e ∨ b = it := by simpa using hb
    rcases e' with z | z
    · rw [z]; exact ⟨_, he, fun v q => nomatch q⟩
    · rw [z]; exact ⟨o, ho, fun v q => by rw [hd] at q; cases q⟩
  keep := fun i h h' st k => let ⟨⟨old, he⟩, hi, hne⟩ := st; ⟨⟨old, k e (by simp) _ he⟩, hi.at fun o q => k it (by simp) o q, hne⟩
  item := by
    intro X hP hw hK hc i pins s σ H E I hf st hg
    subst hP hw hK
    obtain ⟨⟨old, he⟩, hit, hne⟩ := st
    obtain ⟨xs, x, hq, hx⟩ := hg
    obtain ⟨its, rv, p, hz⟩ := I.tuple hq
    obtain ⟨u, hu, ru⟩ := rv.get hx
    have hel : e < s.heap.objs.size := Heap.lt_size he
    have hil : it < s.heap.objs.size := by obtain ⟨_, q, _⟩ := hit; exact Heap.lt_size q
    obtain ⟨na1, na2⟩ := tup_apart he hit p
    have hlt : i < its.toArray.size := by
      rw [List.size_toArray]
      exact (List.getElem?_eq_some_iff.mp hu).1
    refine wpAny_pyNext_enum_itemC (Draws.tuple (show X.A.in1.handled = none from I.ok.hd hc) it a na1 its.toArray) he ⟨hit, p⟩ hlt hne (by simp [hne, na2.symm]) fun x' h' tk hP ho hst' hT hsz hk => ?_
    have ex : x' = u := by
      have hP : its.toArray[i]? = some x' := hP
      simp only [List.getElem?_toArray] at hP
      rw [hu] at hP
      exact (Option.some.inj hP).symm
    subst ex
    refine ⟨_, rfl, wpAny_letOwnedTupleGo_enum (s := { s with heap := h', toks := tk + 1 }) ho fun h'' he' sb => ?_⟩
    have hT2 : h''.get? s.heap.objs.size = some { cls := .type "tuple", data := .seq #[.int i tk, x'] } := (sb.2 _ (Nat.ne_of_gt hel)).trans hT
    have new : ObjOk X.prog X.w (upd H s.heap.objs.size (.tup [.int (i : Nat), x])) h'' s.heap.objs.size (.tup [.int (i : Nat), x]) :=
      ⟨by show 2 ≤ sizeLine; decide, [.int i tk, x'], .cons ⟨_, rfl⟩ (.cons ru .nil), ⟨_, hT2, rfl, _, rfl⟩⟩
    have I1 : Inv X pins σ (upd H s.heap.objs.size (.tup [.int (i : Nat), x])) { s with heap := h'', toks := tk + 1 } :=
      I.turnedNew (ch := [e, it]) (fun b ob hb q => (sb.2 b (fun z => hb (by simp [z]))).trans (hk b ob (fun z => hb (by simp [z])) (fun z => hb (by simp [z])) q)) hf (Nat.le_refl _) new
    refine ⟨.ref s.heap.objs.size, _, I1, rfl, ⟨_, x, rfl, I.hok.fresh (Nat.le_refl _), rfl, fun ys hy => by rw [I.tuple_inj hy hq]; exact hx⟩, ⟨⟨x', ?_⟩, hst'.1.at fun o q => (sb.2 it (Ne.symm hne)).trans q, hne⟩, fun b hb => ?_⟩
    · have e1 : ((i + 1 : Nat) : Int) = (i : Int) + 1 := by omega
      rw [e1]; exact he'
    · have hb' : b < s.heap.objs.size := by
        have e' : b = e ∨ b = it := by simpa using hb
        rcases e' with z | z
        · rw [z]; exact hel
        · rw [z]; exact hil
      rw [upd_ne (Nat.ne_of_lt hb')]
      exact (hf b hb).1
  done := by
    intro X hP hw hK hc i pins s σ H E I hf st hg
    subst hP hw hK
    obtain ⟨⟨old, he⟩, hit, hne⟩ := st
    obtain ⟨xs, hq, hx⟩ := hg
    obtain ⟨its, rv, p, hz⟩ := I.tuple hq
    obtain ⟨f0, f1, f2, f3, f4, f5⟩ := hf it (by simp)
    have hl := rv.length
    obtain ⟨na1, na2⟩ := tup_apart he hit p
    have en : i = its.toArray.size := by
      rw [List.size_toArray]
      omega
    subst en
    exact wpAny_pyNext_enum_endD (Draws.tuple (show X.A.in1.handled = none from I.ok.hd hc) it a na1 its.toArray) he ⟨hit, p⟩ fun h' eb => ⟨rfl, I.turned (t' := s.toks) (fun b o hb q => eb b o hb q) f0 f1 f3 f4 f5⟩
  self := fun A i s Q E st h => let ⟨⟨_, he⟩, _⟩ := st; wpAny_pyIter_enum he h
def iEnumT (K : PySem.W.Frag) (ta : TA) : TI := fun σ H R => ta σ H fun vs H1 => ∃ a xs, vs = [.ref a] ∧ SqT K H1 a xs ∧ R (Itet K a) H1
theorem pi_enumT {X : Cx} {e : Expr} {ta : TA} {p pos tpos : Pos} {elts : List Expr} {kk : Nat} (hg : Gl X "enumerate") (hm : X.mg "enumerate" = none) (ha : PA X [e] ta) (hs : starEach [e] X.env = [(false, eval e X.env)] := by rfl) :
    PI X (.Tuple elts kk tpos) (.Call (.Name "enumerate" p) [e] [] pos) (iEnumT X.K ta) := by
  refine ⟨fun pins s σ H R I h => ?_⟩
  refine Call_ (ld_blt I hg hm boot_enumerate (PyProof.Rows.callWith_type1 (thn (ha.run pos pins s σ H _ I h) fun us s1 ⟨vs, H1, I1, r1, q1⟩ => ?_) hs rfl))
  obtain ⟨a, xs, ex, hq, q⟩ := q1
  subst ex
  cases r1 with
  | cons r rr =>
    cases rr
    cases r
    obtain ⟨its, rv, p', hz⟩ := I1.tuple hq
    refine call_enumerate_tuple p' fun h' he hit hsz hk => wpAny_pyIter_enum he ?_
    have I2 : Inv X pins σ H1 { s1 with heap := h' } := I1.kept (t' := s1.toks) hk
    refine ⟨s1.heap.objs.size + 1, [s1.heap.objs.size + 1, s1.heap.objs.size], _, _, H1, rfl, I2, turn_enumT a (s1.heap.objs.size + 1) s1.heap.objs.size, ⟨⟨.none, he⟩, hit, Nat.succ_ne_self _⟩, fun b hb => ?_, q⟩
    have e' : b = s1.heap.objs.size + 1 ∨ b = s1.heap.objs.size := by simpa using hb
    have hle : s1.heap.objs.size ≤ b := by
      rcases e' with z | z
      · rw [z]; exact Nat.le_add_right _ _
      · rw [z]; exact Nat.le_refl _
    exact I1.fpOk hle (I1.hok.fresh hle)
theorem walk_enumT {K : PySem.W.Frag} {a : Addr} {xs : List V} : Walk (Itet K a) xs.length (fun H => SqT K H a xs) (YPair (fun i => some (.int (i : Nat))) (fun i => xs[i]?)) := by
  refine ⟨fun i _ hi q => ⟨xs, xs[i], q, by simp [hi]⟩, fun _ q => ⟨xs, q, rfl⟩, fun i H v H' _ q y => ?_⟩
  obtain ⟨T, x, h1, h2, h3, h4⟩ := y
  exact ⟨T, .int (i : Nat), x, h1, h2, h3, rfl, h4 xs q⟩
end My
set_option Elab.async false
set_option linter.all false
set_option maxRecDepth 100000
set_option maxHeartbeats 4000000
/-! len(set(xs)) of a list of ints with doubles. -/
namespace My
open PySem PySem.Spec PyProof.Rows L2
/-- so many different ones -/
def Diff (ns : List Int) (c : Nat) : Prop := ∃ ms : List Int, ms.Nodup ∧ (∀ k, k ∈ ms ↔ k ∈ ns) ∧ ms.length = c
def tLenSetG (K : PySem.W.Frag) (ta : TE) : TE := fun σ H Q => ta σ H fun x H1 => ∃ (l : Addr) (ns : List Int), x = V.ref l ∧ SqL K H1 l (ns.map V.int) ∧ ns.length ≤ 2000 ∧ ∀ c : Nat, Diff ns c → Q (.int (c : Nat)) H1
theorem pe_lenSetG {X : Cx} {a : Expr} {ta : TE} {p p2 q pos : Pos} (hg : Gl X "len") (hm : X.mg "len" = none) (hg2 : Gl X "set") (hm2 : X.mg "set" = none) (ha : PE X a ta) (hc : X.calm = true := by rfl)
    (na : starEach [a] X.env = (false, eval a X.env) :: starEach [] X.env := by rfl) : PE X (.Call (.Name "len" p) [.Call (.Name "set" p2) [a] [] q] [] pos) (tLenSetG X.K ta) := by
  refine ⟨fun pins s σ H Q I h => ?_⟩
  refine Call_ (ld_blt I hg hm boot_len ?_)
  refine PyProof.Rows.callWith_builtin1 (PyProof.Rows.args_cons ?_ rfl) rfl rfl
  refine Call_ (ld_blt I hg2 hm2 PyProof.Rows.boot_set ?_)
  refine PyProof.Rows.callWith_type1 (PyProof.Rows.args_cons (thn (ha.run pins s σ H _ I h) fun v s1 ⟨x, H1, I1, r1, q1⟩ => PyProof.Rows.args_nil ?_) na) na rfl
  obtain ⟨l, ns, rfl, hq, hz, q1⟩ := q1
  cases r1
  obtain ⟨its, r, pl, _⟩ := I1.list hq
  refine call_set_lst ns (I1.ok.hd hc) pl.isList (by simpa using r.ints) (by unfold scanBound; omega) fun h1 tk c hS hc1 hk => ?_
  refine PyProof.Rows.args_nil ?_
  obtain ⟨o, es, ep, t, ho, hex, hd, _, hnd, hS2, _, hf, hn, _⟩ := hS
  have I2 : Inv X pins σ H1 { s1 with heap := h1, toks := tk } := I1.kept hk
  refine call_len_set ho hex hd hf (by rw [hn]; omega) ⟨.int c, H1, I2.tok _, ⟨_, by rw [hn]⟩, q1 c ⟨es.toList.map keyOf, hnd, fun k => ?_, ?_⟩⟩
  · rw [← hS2 k]
    simp
  · rw [List.length_map, Array.length_toList]
    exact hn
theorem diff_nodup {ns : List Int} {c : Nat} (h : Diff ns c) : c = ns.length ↔ ns.Nodup := by
  obtain ⟨ms, h1, h2, h3⟩ := h
  subst h3
  constructor
  · intro e
    -- ms is nodup, the same members, as long: ns has no doubles
    have : ∀ {ns ms : List Int}, ms.Nodup → (∀ k, k ∈ ms → k ∈ ns) → ns.length ≤ ms.length → ns.Nodup := fun {ns} => by
      induction ns with
      | nil => intro ms _ _ _; exact List.nodup_nil
      | cons x ns ih =>
        intro ms hm hs hl
        have h0 : x ∈ ms ∧ x ∉ ns := by
          by_cases a : x ∈ ms
          · refine ⟨a, fun b => ?_⟩
            have := nodup_len (l := ms) (m := ns) hm fun k hk => by
              rcases List.mem_cons.mp (hs k hk) with z | z
              · rw [z]; exact b
              · exact z
            rw [List.length_cons] at hl
            omega
          · exfalso
            have := nodup_len (l := ms) (m := ns) hm fun k hk => by
              rcases List.mem_cons.mp (hs k hk) with z | z
              · rw [z] at hk; exact absurd hk a
              · exact z
            rw [List.length_cons] at hl
            omega
        refine List.nodup_cons.mpr ⟨h0.2, ih (ms := ms.erase x) (hm.erase x) (fun k hk => ?_) ?_⟩
        · have hk' := List.mem_of_mem_erase hk
          rcases List.mem_cons.mp (hs k hk') with z | z
          · rw [z] at hk
            exact absurd hk (fun y => (List.Nodup.mem_erase_iff hm).mp y |>.1 rfl)
          · exact z
        · rw [List.length_erase_of_mem h0.1]
          rw [List.length_cons] at hl
          omega
    exact this h1 (fun k hk => (h2 k).mp hk) (by omega)
  · intro hn
    exact Nat.le_antisymm (nodup_len h1 fun k hk => (h2 k).mp hk) (nodup_len hn fun k hk => (h2 k).mpr hk)
end My
set_option Elab.async false
set_option linter.all false
set_option maxRecDepth 100000
set_option maxHeartbeats 4000000
/-! further comprehensions over lists: any target; kept objects. -/
namespace My
open PySem PySem.Spec PyProof.Rows L2
/-- no tests, any target, the values known -/
theorem lc_mapG {K : PySem.W.Frag} {a : Addr} {xs ys : List V} {g : TG} {te : TE} {vs : List Nat} {σ : L2.St} {H1 : Hp} {D : Addr} {Qd : Hp → Prop} (hx : SqL K H1 a xs) (hD : H1 D = none) (hl : ys.length = xs.length) (hz : xs.length ≤ sizeLine)
    (he : ∀ (i : Nat) x y H', Ex H1 H' → xs[i]? = some x → ys[i]? = some y → ∀ (N : VK) (Z : Hp → Prop), (∀ H2, Ex H' H2 → N y H2) → g x (wipe σ vs) H' fun σ2 H2 => wipe σ2 vs = wipe σ vs ∧ tYes σ2 H2 fun b H3 => if b = true then te σ2 H3 N else Z H3)
    (k : ∀ H', Ex H1 H' → H' D = some (.lst ys) → Qd H') :
    ∃ W : Nat → Nat → Hp → Prop, (∃ m, W 0 m (upd H1 D (.lst []))) ∧ ∀ i m H, W i m H →
      ((Itl K a).stop i H ∧ Qd H) ∨ ((Itl K a).go i H ∧ ∃ Nx : Hp → Prop, (∀ H', Nx H' → ∃ m', m' < m ∧ W (i + 1) m' H') ∧ ∀ x H', (Itl K a).yld i H x H' → g x (wipe σ vs) H' fun σ2 H2 => wipe σ2 vs = wipe σ vs ∧ tYes σ2 H2 fun b H3 =>
        if b = true then te σ2 H3 fun y H4 => ∃ acc, H4 D = some (.lst acc) ∧ acc.length < sizeLine ∧ Nx (upd H4 D (.lst (acc ++ [y]))) else Nx H3) := by
  refine lc_objL (R := fun _ v (y : V) => v = y) hx hD hl hz (fun _ _ _ _ r _ => r) (fun i x y H' e _ hx hy N Z kN => he i x y H' e hx hy N Z fun H2 e2 => kN y H2 e2 rfl) fun H' us e d r => k H' e ?_
  have : us = ys := by
    refine List.ext_getElem? fun i => ?_
    cases z : us[i]? with
    | none => rw [List.getElem?_eq_none (by rw [← r.1]; exact List.getElem?_eq_none_iff.mp z)]
    | some v =>
      obtain ⟨y, h1, h2⟩ := r.get z
      rw [h1, h2]
  rw [← this]
  exact d
/-- the items of which p holds, themselves -/
theorem lc_filtO {α : Type} {K : PySem.W.Frag} {a : Addr} {xs : List V} {ys : List α} {R : V → α → Prop} {p : α → Bool} {j : Nat} {tt : TT} {te : TE} {vs : List Nat} {σ : L2.St} {H1 : Hp} {D : Addr} {Qd : Hp → Prop} (hx : SqL K H1 a xs) (hR : AllR R xs ys) (hD : H1 D = none) (hz : xs.length ≤ 1000)
    (hw : ∀ x, wipe ((wipe σ vs).set j (some x)) vs = wipe σ vs)
    (ht : ∀ v y H', y ∈ ys → R v y → Ex H1 H' → ∀ Z : Bool → Hp → Prop, (∀ H2, Ex H' H2 → Z (p y) H2) → tt ((wipe σ vs).set j (some v)) H' Z)
    (he : ∀ v H' (N : VK), N v H' → te ((wipe σ vs).set j (some v)) H' N)
    (k : ∀ H' us, Ex H1 H' → H' D = some (.lst us) → AllR R us (ys.filter p) → Qd H') :
    ∃ W : Nat → Nat → Hp → Prop, (∃ m, W 0 m (upd H1 D (.lst []))) ∧ ∀ i m H, W i m H →
      ((Itl K a).stop i H ∧ Qd H) ∨ ((Itl K a).go i H ∧ ∃ Nx : Hp → Prop, (∀ H', Nx H' → ∃ m', m' < m ∧ W (i + 1) m' H') ∧ ∀ x H', (Itl K a).yld i H x H' → gName j x (wipe σ vs) H' fun σ2 H2 => wipe σ2 vs = wipe σ vs ∧ tt σ2 H2 fun b H3 =>
        if b = true then te σ2 H3 fun y H4 => ∃ acc, H4 D = some (.lst acc) ∧ acc.length < sizeLine ∧ Nx (upd H4 D (.lst (acc ++ [y]))) else Nx H3) := by
  refine lc_it (walk_list (K := K) (a := a) (xs := xs)) (fun i H' => ∃ us, Ex H1 H' ∧ H' D = some (.lst us) ∧ us.length ≤ i ∧ AllR R us ((ys.take i).filter p)) ⟨[], Evl.Ex.new hD, upd_same, Nat.le_refl _, AllR.nil⟩ (fun i H' _ ⟨_, e, _⟩ => Evl.ex_l e hx) ?_ ?_
  · rintro i v HX H3 hi ⟨us, e3, d3, l3, a3⟩ ⟨rfl, hv⟩
    obtain ⟨y, hy, r⟩ := hR.get hv
    refine ⟨hw _, ?_⟩
    show tt ((wipe σ vs).set j (some v)) _ _
    refine ht v y _ (List.mem_of_getElem? hy) r e3 _ fun H4 e4 => ?_
    rw [take_snoc hy, List.filter_append, List.filter_cons]
    cases q : p y with
    | true =>
      refine iteT (he v _ _ ⟨us, e4 _ _ d3, Nat.lt_of_le_of_lt (show _ ≤ 1000 by omega) (by decide), us ++ [v], Evl.Ex.mut (e3.trans e4) hD, upd_same, by simp; omega, ?_⟩)
      exact AllR.snoc a3 r
    | false =>
      refine iteF ⟨us, e3.trans e4, e4 _ _ d3, by omega, ?_⟩
      simpa using a3
  · rintro H' ⟨us, e', d', l', a'⟩
    rw [List.take_of_length_le (by rw [← hR.1]; exact Nat.le_refl _)] at a'
    exact k H' us e' d' a'
/-- ints of a range, with a test -/
theorem lc_filtR {lo : Int} {n : Nat} {p : Int → Bool} {j : Nat} {tt : TT} {te : TE} {vs : List Nat} {σ : L2.St} {H1 : Hp} {D : Addr} {Qd : Hp → Prop} (hD : H1 D = none) (hz : n ≤ 1000)
    (hw : ∀ x, wipe ((wipe σ vs).set j (some x)) vs = wipe σ vs)
    (ht : ∀ (i : Nat) H', i < n → Ex H1 H' → ∀ Z : Bool → Hp → Prop, (∀ H2, Ex H' H2 → Z (p (lo + i)) H2) → tt ((wipe σ vs).set j (some (.int (lo + i)))) H' Z)
    (he : ∀ v H' (N : VK), N v H' → te ((wipe σ vs).set j (some v)) H' N)
    (k : ∀ H', Ex H1 H' → H' D = some (.lst ((((List.range n).map fun i => lo + ((i : Nat) : Int)).filter p).map V.int)) → Qd H') :
    ∃ W : Nat → Nat → Hp → Prop, (∃ m, W 0 m (upd H1 D (.lst []))) ∧ ∀ i m H, W i m H →
      ((Itr lo n).stop i H ∧ Qd H) ∨ ((Itr lo n).go i H ∧ ∃ Nx : Hp → Prop, (∀ H', Nx H' → ∃ m', m' < m ∧ W (i + 1) m' H') ∧ ∀ x H', (Itr lo n).yld i H x H' → gName j x (wipe σ vs) H' fun σ2 H2 => wipe σ2 vs = wipe σ vs ∧ tt σ2 H2 fun b H3 =>
        if b = true then te σ2 H3 fun y H4 => ∃ acc, H4 D = some (.lst acc) ∧ acc.length < sizeLine ∧ Nx (upd H4 D (.lst (acc ++ [y]))) else Nx H3) := by
  refine lc_range (fun i H' => Ex H1 H' ∧ H' D = some (.lst ((((List.range i).map fun i => lo + ((i : Nat) : Int)).filter p).map V.int))) ⟨Evl.Ex.new hD, upd_same⟩ ?_ ?_
  · rintro i H3 hi ⟨e3, d3⟩
    refine ⟨hw _, ?_⟩
    show tt ((wipe σ vs).set j (some (.int (lo + i)))) _ _
    refine ht i _ hi e3 _ fun H4 e4 => ?_
    rw [List.range_succ, List.map_append, List.filter_append, List.map_cons, List.map_nil, List.filter_cons]
    cases q : p (lo + i) with
    | true =>
      refine iteT (he _ _ _ ⟨_, e4 _ _ d3, ?_, Evl.Ex.mut (e3.trans e4) hD, ?_⟩)
      · rw [List.length_map]
        refine Nat.lt_of_le_of_lt (List.length_filter_le _ _) ?_
        rw [List.length_map, List.length_range]
        exact Nat.lt_of_le_of_lt (show _ ≤ 1000 by omega) (by decide)
      · rw [upd_same, List.map_append]
        rfl
    | false =>
      refine iteF ⟨e3.trans e4, ?_⟩
      rw [e4 _ _ d3]
      simp
  · rintro H' ⟨e', d'⟩
    exact k H' e' d'
end My
set_option Elab.async false
set_option linter.all false
set_option maxRecDepth 100000
set_option maxHeartbeats 4000000
/-! displays of lists and tuples all of whose parts are known data. -/
namespace My
open PySem PySem.Spec PyProof.Rows L2
mutual
theorem dpEx {K : PySem.W.Frag} {H H' : Hp} (e : Ex H H') : ∀ {v : V} {d : PyData}, Dp K H v d → Dp K H' v d
  | _, _, .non => .non
  | _, _, .bl b => .bl b
  | _, _, .int i => .int i
  | _, _, .str x => .str x
  | _, _, .lst h a => .lst (Evl.ex_l e h) (dpAllEx e a)
  | _, _, .tup h a => .tup (Evl.ex_t e h) (dpAllEx e a)
theorem dpAllEx {K : PySem.W.Frag} {H H' : Hp} (e : Ex H H') : ∀ {vs : List V} {ds : List PyData}, DpAll K H vs ds → DpAll K H' vs ds
  | _, _, .nil => .nil
  | _, _, .cons h a => .cons (dpEx e h) (dpAllEx e a)
end
theorem dpAll_len {K : PySem.W.Frag} {H : Hp} : ∀ {vs : List V} {ds : List PyData}, DpAll K H vs ds → vs.length = ds.length
  | _, _, .nil => rfl
  | _, _, .cons _ a => by simp [dpAll_len a]
theorem dpAll_app {K : PySem.W.Frag} {H : Hp} : ∀ {vs us : List V} {ds es : List PyData}, DpAll K H vs ds → DpAll K H us es → DpAll K H (vs ++ us) (ds ++ es)
  | _, _, _, _, .nil, b => b
  | _, _, _, _, .cons h a, b => .cons h (dpAll_app a b)
theorem dpAll_at {K : PySem.W.Frag} {H : Hp} : ∀ {vs : List V} {ds : List PyData} (_ : DpAll K H vs ds) {i : Nat} {v : V}, vs[i]? = some v → ∃ d, ds[i]? = some d ∧ Dp K H v d
  | _, _, .nil, i, v, h => by cases h
  | _, _, .cons h a, 0, v, e => by cases e; exact ⟨_, rfl, h⟩
  | _, _, .cons h a, i + 1, v, e => dpAll_at a e
def tLit (K : PySem.W.Frag) (d : PyData) : TE := fun σ H Q => ∀ v H', Ex H H' → Dp K H' v d → Q v H'
def tLits (K : PySem.W.Frag) (ds : List PyData) : TA := fun σ H Q => ∀ vs H', Ex H H' → DpAll K H' vs ds → Q vs H'
section
variable {X : Cx} {e : Expr} {es : List Expr} {d : PyData} {ds : List PyData} {pos : Pos}
theorem pl_int {i : Int} {j : Nat} : PE X (.Constant (.int i) j pos) (tLit X.K (.int i)) := pe_weak pe_int fun σ H Q q => q _ H (Evl.Ex.refl H) (.int i)
theorem pl_bl {b : Bool} {j : Nat} : PE X (.Constant (.bool b) j pos) (tLit X.K (.bool b)) := pe_weak pe_bl fun σ H Q q => q _ H (Evl.Ex.refl H) (.bl b)
theorem pl_non {j : Nat} : PE X (.Constant .none j pos) (tLit X.K .none) := pe_weak pe_non fun σ H Q q => q _ H (Evl.Ex.refl H) .non
theorem pl_str {x : Str} {j : Nat} : PE X (.Constant (.str x) j pos) (tLit X.K (.str x)) := pe_weak pe_str fun σ H Q q => q _ H (Evl.Ex.refl H) (.str x)
theorem pl_neg {i : Int} {j : Nat} {p2 : Pos} : PE X (.UnaryOp .USub (.Constant (.int i) j p2) pos) (tLit X.K (.int (-i))) := pe_weak (pe_un un_neg pe_int) fun σ H Q q => ⟨_, rfl, q _ H (Evl.Ex.refl H) (.int _)⟩
theorem pl_nil : PA X [] (tLits X.K []) := ⟨fun pos pins s σ H Q I q => pa_nil.run pos pins s σ H Q I (q [] H (Evl.Ex.refl H) .nil)⟩
theorem pl_cons (he : PE X e (tLit X.K d)) (hr : PA X es (tLits X.K ds)) (hn : starEach (e :: es) X.env = (false, eval e X.env) :: starEach es X.env := by rfl) : PA X (e :: es) (tLits X.K (d :: ds)) :=
  ⟨fun pos pins s σ H Q I q => (pa_cons he hr hn).run pos pins s σ H Q I fun v H1 e1 d1 => fun vs H2 e2 d2 => q (v :: vs) H2 (e1.trans e2) (.cons (dpEx e2 d1) d2)⟩
theorem pl_lst (h : PA X es (tLits X.K ds)) (hz : ds.length ≤ 1000) : PE X (.List es pos) (tLit X.K (.list ds)) := pe_weak (pe_lstG h) fun σ H Q q => fun vs H1 e1 d1 => ⟨by
  rw [dpAll_len d1]
  exact Nat.le_trans hz (by decide), fun p H2 n2 e2 h2 => q _ H2 (e1.trans e2) (.lst (sqI h2) (dpAllEx e2 d1))⟩
theorem pl_tup {x1 : Nat} (h : PA X es (tLits X.K ds)) (hz : ds.length ≤ 1000) : PE X (.Tuple es x1 pos) (tLit X.K (.tuple ds)) := pe_weak (pe_tupG h) fun σ H Q q => fun vs H1 e1 d1 => ⟨by
  rw [dpAll_len d1]
  exact Nat.le_trans hz (by decide), fun p H2 n2 e2 h2 => q _ H2 (e1.trans e2) (.tup (sqT h2) (dpAllEx e2 d1))⟩
end
end My
set_option Elab.async false
set_option linter.all false
set_option maxRecDepth 100000
set_option maxHeartbeats 4000000
/-! xs[lo::c], c a written number -/
namespace My
open PySem PySem.Spec PyProof.Rows L2
def stepIx (n : Nat) (lo : Option Int) (c : Int) : List Nat := sliceRange (sliceBounds lo none (some c) n).1 (sliceBounds lo none (some c) n).2.1 (sliceBounds lo none (some c) n).2.2
def stepV {α : Type} (xs : List α) (lo : Option Int) (c : Int) : List α := (stepIx xs.length lo c).filterMap (xs[·]?)
theorem vals_pickS {xs : List V} {its : List Value} (r : Vals xs its) : ∀ J : List Nat, Vals (J.filterMap (xs[·]?)) (J.filterMap (its[·]?))
  | [] => .nil
  | j :: J => by
    have ih := vals_pickS r J
    by_cases h : j < xs.length
    · obtain ⟨u, hu, ru⟩ := r.get (List.getElem?_eq_getElem h)
      rw [List.filterMap_cons, List.filterMap_cons, List.getElem?_eq_getElem h, hu]
      exact .cons ru ih
    · have h2 : ¬ j < its.length := by rw [← r.length]; exact h
      rw [List.filterMap_cons, List.filterMap_cons, List.getElem?_eq_none (by omega), List.getElem?_eq_none (by omega)]
      exact ih
theorem stepV_map {α β : Type} (f : α → β) (xs : List α) (lo : Option Int) (c : Int) : stepV (xs.map f) lo c = (stepV xs lo c).map f := by
  unfold stepV
  rw [List.length_map, List.map_filterMap]
  exact congrArg (fun h => List.filterMap h _) (funext fun j => List.getElem?_map)
def tStepG (K : PySem.W.Frag) (te : TE) (tl : TO) (c : Int) : TE := fun σ H Q => te σ H fun x H1 => tl σ H1 fun lo H2 => ∃ a xs, x = .ref a ∧ SqL K H2 a xs ∧ (stepV xs lo c).length ≤ sizeLine ∧ New (.lst (stepV xs lo c)) H2 Q
section
variable {X : Cx}
theorem pe_stepG {e : Expr} {te : TE} {tl : TO} {ol : Option Expr} {c : Int} {k : Nat} {p1 p3 pos : Pos} (hc : c ≠ 0) (he : PE X e te) (hl : PO X ol tl) : PE X (.Subscript e (.Slice ol none (some (.Constant (.int c) k p1)) p3) pos) (tStepG X.K te tl c) := by
  refine ⟨fun pins s σ H Q I h => ?_⟩
  refine Subscript_ (thn (he.run pins s σ H _ I h) fun v s1 ⟨x, H1, I1, r1, q1⟩ => ?_)
  have hst : PO X (some (.Constant (.int c) k p1)) (tPart (tC (.int c))) := po_some pe_int
  refine wpAny_Slice (thn (hl.run pins s1 σ H1 _ I1 q1) fun vl s2 ⟨lo, H2, I2, pl, q2⟩ => ?_)
  obtain ⟨a, xs, ex, hx, hn, q⟩ := q2
  subst ex
  cases r1
  refine thn (po_none.run pins s2 σ H2 (fun o H3 => o = none ∧ H3 = H2) I2 ⟨rfl, rfl⟩) fun vu s3 ⟨u, H3, I3, pu, eu, e3⟩ => ?_
  subst eu e3
  refine thn (hst.run pins s3 σ H3 (fun o H4 => o = some c ∧ H4 = H3) I3 ⟨c, rfl, rfl, rfl⟩) fun vs s4 ⟨o, H4, I4, ps, eo, e4⟩ => ?_
  subst eo e4
  have I5 : Inv X pins σ H4 { s4 with heap := s4.heap.push { cls := .type "slice", data := .fields #[vl, vu, vs] } } := I4.kept (t' := s4.toks) fun b ob q => Heap.get?_push_of_some _ q
  obtain ⟨its, r, ht, hz⟩ := I5.list hx
  have hlen := r.length
  show wpAny (model X.prog X.w) X.A (subscriptTail e (.Slice ol none (some (.Constant (.int c) k p1)) p3) (.ref a) (.ref s4.heap.objs.size)) (EP X pins σ Q) X.xe { s4 with heap := s4.heap.push { cls := .type "slice", data := .fields #[vl, vu, vs] } }
  refine tail_any (ops := [.ref a, .ref s4.heap.objs.size]) ht.isList.typeIs (PySem.slot_list_getitem.lookup) ?_ (by with_unfolding_all rfl)
  refine wpAny_getItem_list_slice ht.isList (Heap.IsSliceOf.new _ vl vu vs) pl pu ps (fun z => hc (Option.some.inj z)) ?_ (by rw [List.size_toArray]; omega)
  have pk : slicePick its.toArray lo none (some c) = (stepV its lo c).toArray := by
    unfold slicePick stepV stepIx
    rw [List.size_toArray]
    congr 1
    exact congrArg (fun h => List.filterMap h _) (funext fun j => by simp)
  rw [pk]
  have rv : Vals (stepV xs lo c) (stepV its lo c) := by
    unfold stepV
    rw [hlen]
    exact vals_pickS r _
  refine ⟨.ref _, _, I5.laid (t' := s4.toks) (o := .lst (stepV xs lo c)) (fun b ob q => Heap.get?_push_of_some _ q) (Nat.le_refl _) ?_, rfl, q.go _ (I5.hok.fresh (Nat.le_refl _))⟩
  exact ⟨hn, _, 0, rv, Heap.get?_push_size _ rfl⟩
end
end My
set_option Elab.async false
set_option linter.all false
set_option maxRecDepth 100000
set_option maxHeartbeats 4000000
/-! d.get(k, x) where k may be None -/
namespace My
open PySem PySem.Spec PyProof.Rows L2
section
variable {X : Cx} {pins : List (Addr × Obj)} {σ : L2.St} {H : Hp} {s : Shared} {a : Addr} {kvs : List (Key × V)} {A : Around} {E : Value → Shared → Prop}
theorem d_get2N {Q : Value → Shared → Prop} {r : Value} (I : Inv X pins σ H s) (e : Rd H a (.dK kvs)) (h : ∀ s', Inv X pins σ H s' → Q r s') :
    wpAny (model X.prog X.w) A (call (.builtin "dict.get") [.ref a, .none, r]) Q E s := by
  obtain ⟨_, hd, vs, _, dd⟩ := dk_rd I.hok e
  obtain ⟨f, hm, hf⟩ := none_map dd
  refine call_meetsIn PySem.F.slot_dict_get dd.typeIs PySem.F.entry_dict_get (PySem.F.args_dict_get_3 _ _ _) (meets_dict_get_default (noneKind X.prog X.w) a (show (noneKind X.prog X.w).is none .none = true from rfl) hd r) ⟨_, hm, ?_⟩
  rw [hf]
  exact h _ (I.tok _)
/-- v is what d.get(y, z) gives -/
def GetV (H : Hp) (a : Addr) (y z v : V) : Prop := (∃ o, DGet H a y o ∧ v = o.getD z) ∨ (∃ kvs, y = .non ∧ Rd H a (.dK kvs) ∧ v = z)
def tDGet2N (td ty tx : TE) : TE := fun σ H Q => td σ H fun x H1 => ∃ a, x = .ref a ∧ IsD H1 a ∧ ty σ H1 fun y H2 => tx σ H2 fun z H3 => ∃ v, GetV H3 a y z v ∧ Q v H3
end
section
variable {X : Cx} {o e f : Expr} {apos cpos : Pos} {td ty tx : TE}
theorem pe_dget2N (hu : X.A.units + 1 < cLine) (ho : PE X o td) (he : PE X e ty) (hf : PE X f tx) (m : M2 X o "get" apos e f cpos) : PE X (.Call (.Attribute o "get" apos) [e, f] [] cpos) (tDGet2N td ty tx) := by
  refine ⟨fun pins s σ H Q I h => ?_⟩
  refine wpAny_Call_method m.base m.few m.line PySem.F.plainAttrs_dict PySem.F.slot_dict_get PySem.F.type_dict_get (thn (ho.run pins s σ H _ I h) fun u s1 ⟨x, H1, I1, rx, a, ex, d, q1⟩ => ?_)
  subst ex
  obtain rfl : u = Value.ref a := rx
  obtain ⟨t1, t2, _⟩ := isD_at I1 d
  refine ⟨t1, t2, ?_⟩
  rw [m.trees]
  refine Calls.callWith_builtin rfl (Calls.evalArgs_plain (Calls.spliced_cons (thn (he.run pins s1 σ H1 _ I1 q1) fun iv s2 ⟨y, H2, I2, ry, q2⟩ =>
    Calls.spliced_cons (thn (hf.run pins s2 σ H2 _ I2 q2) fun fv s3 ⟨z, H3, I3, rz, q3⟩ => Calls.spliced_nil ?_))))
  obtain ⟨v, gv, q3⟩ := q3
  rcases gv with ⟨ov, g, rfl⟩ | ⟨kvs, ey, g, rfl⟩
  · exact d_get2 hu I3 g ry rz fun w' s4 I4 rw' => ⟨_, H3, I4, rw', q3⟩
  · subst ey
    obtain rfl : iv = Value.none := ry
    exact d_get2N I3 g fun s4 I4 => ⟨_, H3, I4, rz, q3⟩
end
end My
set_option Elab.async false
set_option linter.all false
set_option maxRecDepth 100000
set_option maxHeartbeats 4000000
/-! Dicts whose keys are tuples of any depth (ints, texts, bools, None, tuples of these). -/
namespace My
open PySem PySem.Spec PyProof.Rows L2
/-! ### keys -/
mutual
/-- the thing x is the key k -/
inductive NIs (β : Bool) (K : PySem.W.Frag) (H : Hp) : NestedKey → V → Prop
  | none : NIs β K H .none .non
  | num (i : Int) : NIs β K H (.num i) (.int i)
  | bl (hb : β = true) (b : Bool) : NIs β K H (.num (if b = true then 1 else 0)) (.bl b)
  | text (x : Str) : NIs β K H (.text x) (.str x)
  | tup {a : Addr} {xs : List V} {ks : List NestedKey} : SqT K H a xs → NAll β K H ks xs → NIs β K H (.tup ks) (.ref a)
inductive NAll (β : Bool) (K : PySem.W.Frag) (H : Hp) : List NestedKey → List V → Prop
  | nil : NAll β K H [] []
  | cons {k : NestedKey} {v : V} {ks : List NestedKey} {vs : List V} : NIs β K H k v → NAll β K H ks vs → NAll β K H (k :: ks) (v :: vs)
end
variable {β : Bool}
/-- at j stands no tuple -/
def NTup (H : Hp) (j : Addr) : Prop := ∀ o, H j = some o → (∀ xs, o ≠ .tup xs) ∧ ∀ ob u, o ≠ .frz ob u
theorem NTup.lst {H : Hp} {j : Addr} {xs : List V} (h : H j = some (.lst xs)) : NTup H j := fun o e => by
  rw [h] at e
  cases e
  exact ⟨(fun _ z => nomatch z), (fun _ _ z => nomatch z)⟩
theorem sqT_keep {K : PySem.W.Frag} {H H' : Hp} {j a : Addr} {xs : List V} (e : Exj j H H') (n : NTup H j) : SqT K H a xs → SqT K H' a xs
  | .inl (.inl h) => .inl (.inl (e a _ (fun z => (n _ (z ▸ h)).1 _ rfl) h))
  | .inl (.inr ⟨o, h⟩) => .inl (.inr ⟨o, e a _ (fun z => (n _ (z ▸ h)).2 _ _ rfl) h⟩)
  | .inr h => .inr h
mutual
theorem NIs.map {K : PySem.W.Frag} {H H' : Hp} (e : ∀ a xs, SqT K H a xs → SqT K H' a xs) : ∀ (k : NestedKey) (v : V), NIs β K H k v → NIs β K H' k v
  | .none, _, h => by
    cases h
    exact .none
  | .num _, _, h => by
    cases h with
    | num => exact .num _
    | bl hb b => exact .bl hb b
  | .text _, _, h => by
    cases h
    exact .text _
  | .tup ks, _, h => by
    cases h with
    | tup h1 h2 => exact .tup (e _ _ h1) (NAll.map e ks _ h2)
theorem NAll.map {K : PySem.W.Frag} {H H' : Hp} (e : ∀ a xs, SqT K H a xs → SqT K H' a xs) : ∀ (ks : List NestedKey) (vs : List V), NAll β K H ks vs → NAll β K H' ks vs
  | [], _, h => by
    cases h
    exact .nil
  | k :: ks, _, h => by
    cases h with
    | cons h1 h2 => exact .cons (NIs.map e k _ h1) (NAll.map e ks _ h2)
end
theorem NIs.keep {K : PySem.W.Frag} {H H' : Hp} {j : Addr} {k : NestedKey} {v : V} (e : Exj j H H') (n : NTup H j) (h : NIs β K H k v) : NIs β K H' k v := NIs.map (fun _ _ => sqT_keep e n) k v h
theorem sqT_exN {K : PySem.W.Frag} {H H' : Hp} {a : Addr} {xs : List V} (e : Ex H H') : SqT K H a xs → SqT K H' a xs
  | .inl (.inl h) => .inl (.inl (e _ _ h))
  | .inl (.inr ⟨o, h⟩) => .inl (.inr ⟨o, e _ _ h⟩)
  | .inr h => .inr h
theorem NIs.ex {K : PySem.W.Frag} {H H' : Hp} {k : NestedKey} {v : V} (e : Ex H H') (h : NIs β K H k v) : NIs β K H' k v := NIs.map (fun _ _ => sqT_exN e) k v h
theorem NAll.ex {K : PySem.W.Frag} {H H' : Hp} {k : List NestedKey} {v : List V} (e : Ex H H') (h : NAll β K H k v) : NAll β K H' k v := NAll.map (fun _ _ => sqT_exN e) k v h
mutual
theorem NIs.up {K : PySem.W.Frag} {H : Hp} : ∀ (k : NestedKey) (v : V), NIs β K H k v → NIs true K H k v
  | .none, _, h => by
    cases h
    exact .none
  | .num _, _, h => by
    cases h with
    | num => exact .num _
    | bl hb b => exact .bl rfl b
  | .text _, _, h => by
    cases h
    exact .text _
  | .tup ks, _, h => by
    cases h with
    | tup h1 h2 => exact .tup h1 (NAll.up ks _ h2)
theorem NAll.up {K : PySem.W.Frag} {H : Hp} : ∀ (ks : List NestedKey) (vs : List V), NAll β K H ks vs → NAll true K H ks vs
  | [], _, h => by
    cases h
    exact .nil
  | k :: ks, _, h => by
    cases h with
    | cons h1 h2 => exact .cons (NIs.up k _ h1) (NAll.up ks _ h2)
end
/-- without bools the things are told by the keys -/
theorem NAll.ints_eq {K : PySem.W.Frag} {H : Hp} : ∀ (ns : List Int) (vs : List V), NAll false K H (ns.map NestedKey.num) vs → vs = ns.map V.int
  | [], _, h => by
    cases h
    rfl
  | n :: ns, _, h => by
    cases h with
    | cons h1 h2 =>
      cases h1 with
      | num => rw [NAll.ints_eq ns _ h2]; rfl
      | bl hb b => exact Bool.noConfusion hb
theorem NAll.ints {K : PySem.W.Frag} {H : Hp} : ∀ ns : List Int, NAll β K H (ns.map NestedKey.num) (ns.map V.int)
  | [] => .nil
  | n :: ns => .cons (.num n) (NAll.ints ns)
theorem NAll.bools {K : PySem.W.Frag} {H : Hp} : ∀ bs : List Bool, NAll true K H (bs.map fun b => NestedKey.num (if b = true then 1 else 0)) (bs.map V.bl)
  | [] => .nil
  | b :: bs => .cons (.bl rfl b) (NAll.bools bs)
section
variable {X : Cx} {pins : List (Addr × Obj)} {σ : L2.St} {H : Hp} {s : Shared}
mutual
theorem nis_is (I : Inv X pins σ H s) : ∀ (k : NestedKey) (x : V) (u : Value), NIs β X.K H k x → RelV x u → NestedIs s.heap k u
  | .none, _, u, h, r => by
    cases h
    cases (show u = Value.none from r)
    exact .none
  | .num _, _, u, h, r => by
    cases h with
    | num =>
      obtain ⟨t, e⟩ := (show ∃ t, u = Value.int _ t from r)
      subst e
      exact .int _ t
    | bl hb b =>
      cases (show u = Value.bool b from r)
      exact .bool rfl
  | .text x, _, u, h, r => by
    cases h
    obtain ⟨t, e⟩ := (show ∃ t, u = Value.str x t from r)
    subst e
    exact .text x t
  | .tup ks, _, u, h, r => by
    cases h with
    | @tup a xs _ h1 h2 =>
      cases (show u = Value.ref a from r)
      obtain ⟨its, rv, ⟨o, e1, e2, n, e3⟩, _⟩ := I.tuple h1
      exact .tup e1 e2 e3 (nall_is I ks xs its h2 rv)
theorem nall_is (I : Inv X pins σ H s) : ∀ (ks : List NestedKey) (xs : List V) (us : List Value), NAll β X.K H ks xs → Vals xs us → NestedAll s.heap ks us
  | [], _, us, h, r => by
    cases h
    cases r
    exact .nil
  | k :: ks, _, us, h, r => by
    cases h with
    | @cons _ v _ vs h1 h2 =>
      cases r with
      | @cons _ u _ us r1 r2 => exact .cons (nis_is I k v u h1 r1) (nall_is I ks vs us h2 r2)
end
end
/-! ### dicts -/
def entN (w : World) (x : NestedKey × Addr × Value) : DictEntry := ⟨x.1.hash w, .ref x.2.1, x.2.2⟩
/-- the object at a is a dict of the entries xs -/
def DNO (w : World) (a : Addr) (xs : List (NestedKey × Addr × Value)) : HO := .ext fun h => ∃ o es ep, h.get? a = some o ∧ o.ExactDict ∧ o.data = .dict es ep ∧ es.toList = xs.map (entN w)
abbrev KN (β : Bool) (K : PySem.W.Frag) (H : Hp) : List (NestedKey × V) → List (NestedKey × Addr × Value) → Prop := Paired fun p q => p.1 = q.1 ∧ (NIs β K H p.1 (.ref q.2.1) ∧ p.1.depth ≤ 8) ∧ RelV p.2 q.2.2
/-- at a stands a dict of these keys and values -/
def IsDN (β : Bool) (K : PySem.W.Frag) (w : World) (H : Hp) (a : Addr) (kvs : List (NestedKey × V)) : Prop := ∃ xs, H a = some (DNO w a xs) ∧ KN β K H kvs xs ∧ kvs.length ≤ sizeLine ∧ (a == sysModules) = false ∧ (xs.map (·.1)).Nodup
/-- .. it may be locked: to be read -/
def RdDN (β : Bool) (K : PySem.W.Frag) (w : World) (H : Hp) (a : Addr) (kvs : List (NestedKey × V)) : Prop := ∃ xs, Rd H a (DNO w a xs) ∧ KN β K H kvs xs ∧ kvs.length ≤ sizeLine ∧ (a == sysModules) = false ∧ (xs.map (·.1)).Nodup
theorem KN.up {K : PySem.W.Frag} {H : Hp} {kvs : List (NestedKey × V)} {xs : List (NestedKey × Addr × Value)} (r : KN β K H kvs xs) : KN true K H kvs xs := Paired.mapP r fun _ _ z => ⟨z.1, ⟨NIs.up _ _ z.2.1.1, z.2.1.2⟩, z.2.2⟩
theorem IsDN.rd {K : PySem.W.Frag} {w : World} {H : Hp} {a : Addr} {kvs : List (NestedKey × V)} : IsDN β K w H a kvs → RdDN true K w H a kvs
  | ⟨xs, h, r, h3⟩ => ⟨xs, .inl h, r.up, h3⟩
theorem IsDN.rdB {K : PySem.W.Frag} {w : World} {H : Hp} {a : Addr} {kvs : List (NestedKey × V)} : IsDN β K w H a kvs → RdDN β K w H a kvs
  | ⟨xs, h, r⟩ => ⟨xs, .inl h, r⟩
theorem RdDN.up {K : PySem.W.Frag} {w : World} {H : Hp} {a : Addr} {kvs : List (NestedKey × V)} : RdDN β K w H a kvs → RdDN true K w H a kvs
  | ⟨xs, h, r, h3⟩ => ⟨xs, h, r.up, h3⟩
theorem RdDN.ex {K : PySem.W.Frag} {w : World} {H H' : Hp} {a : Addr} {kvs : List (NestedKey × V)} (e : Ex H H') (h : RdDN β K w H a kvs) (k : ∀ ks xs, KN β K H ks xs → KN β K H' ks xs) : RdDN β K w H' a kvs := by
  obtain ⟨xs, h1, h2, h3⟩ := h
  refine ⟨xs, ?_, k _ _ h2, h3⟩
  rcases h1 with h1 | ⟨o, h1⟩
  · exact .inl (e _ _ h1)
  · exact .inr ⟨o, e _ _ h1⟩
theorem KN.val {K : PySem.W.Frag} {H : Hp} {kvs : List (NestedKey × V)} {xs : List (NestedKey × Addr × Value)} (r : KN β K H kvs xs) (k : NestedKey) : RelO (valV kvs k) ((atKey xs k).map (·.2)) := by
  induction r with
  | nil => exact True.intro
  | @cons p q ps qs h t ih =>
    obtain ⟨h1, _, h2⟩ := h
    by_cases e : p.1 = k
    · have e' : q.1 = k := h1.symm.trans e
      have b : atKey (q :: qs) k = some q.2 := by simp [atKey, List.find?_cons, e']
      rw [valV_pos e, b]
      exact h2
    · have e' : ¬ q.1 = k := fun z => e (h1.trans z)
      have b : atKey (q :: qs) k = atKey qs k := by simp [atKey, List.find?_cons, e']
      rw [valV_neg e, b]
      exact ih
theorem KN.repl {K : PySem.W.Frag} {H : Hp} {kvs : List (NestedKey × V)} {xs : List (NestedKey × Addr × Value)} (r : KN β K H kvs xs) (k : NestedKey) {y : V} {u : Value} (ry : RelV y u) : KN β K H (kvs.map fun kv => if kv.1 = k then (kv.1, y) else kv) (xs.map (putAt k u)) := by
  induction r with
  | nil => exact .nil
  | @cons p q ps qs h t ih =>
    rw [List.map_cons, List.map_cons]
    refine .cons ?_ ih
    obtain ⟨h1, h2, h3⟩ := h
    unfold putAt
    by_cases e : p.1 = k
    · rw [if_pos e, if_pos (h1.symm.trans e)]
      exact ⟨h1, h2, ry⟩
    · rw [if_neg e, if_neg (fun z => e (h1.trans z))]
      exact ⟨h1, h2, h3⟩
theorem KN.put {K : PySem.W.Frag} {H : Hp} {kvs : List (NestedKey × V)} {xs : List (NestedKey × Addr × Value)} (r : KN β K H kvs xs) (k : NestedKey) {b : Addr} {y : V} {u : Value} (hb : NIs β K H k (.ref b) ∧ k.depth ≤ 8) (ry : RelV y u) : KN β K H (putK kvs k y) (storedH xs k b u) := by
  have e : (kvs.any fun kv => decide (kv.1 = k)) = (atKey xs k).isSome := by
    rw [valV_any, (r.val k).isSome_eq, Option.isSome_map]
  unfold putK storedH
  rw [e]
  by_cases q : (atKey xs k).isSome = true
  · rw [if_pos q, if_pos q]
    exact r.repl k ry
  · rw [if_neg q, if_neg q]
    exact Paired.snoc r ⟨rfl, hb, ry⟩
theorem KN.map {K : PySem.W.Frag} {H H' : Hp} {kvs : List (NestedKey × V)} {xs : List (NestedKey × Addr × Value)} (e : ∀ a ys, SqT K H a ys → SqT K H' a ys) (r : KN β K H kvs xs) : KN β K H' kvs xs :=
  Paired.mapP r fun _ _ z => ⟨z.1, ⟨NIs.map e _ _ z.2.1.1, z.2.1.2⟩, z.2.2⟩
theorem KN.keys {K : PySem.W.Frag} {H : Hp} {kvs : List (NestedKey × V)} {xs : List (NestedKey × Addr × Value)} (r : KN β K H kvs xs) : kvs.map (·.1) = xs.map (·.1) := by
  induction r with
  | nil => rfl
  | cons h t ih => rw [List.map_cons, List.map_cons, ih, h.1]
theorem IsDN.keep {K : PySem.W.Frag} {w : World} {H H' : Hp} {a j : Addr} {kvs : List (NestedKey × V)} (e : Exj j H H') (n : NTup H j) (ha : a ≠ j) : IsDN β K w H a kvs → IsDN β K w H' a kvs
  | ⟨xs, h1, h2, h3⟩ => ⟨xs, e _ _ ha h1, h2.map fun _ _ => sqT_keep e n, h3⟩
theorem IsDN.ex {K : PySem.W.Frag} {w : World} {H H' : Hp} {a : Addr} {kvs : List (NestedKey × V)} (e : Ex H H') : IsDN β K w H a kvs → IsDN β K w H' a kvs
  | ⟨xs, h1, h2, h3⟩ => ⟨xs, e _ _ h1, h2.map fun _ _ => sqT_exN e, h3⟩
theorem IsDN.ntup {K : PySem.W.Frag} {w : World} {H : Hp} {a : Addr} {kvs : List (NestedKey × V)} : IsDN β K w H a kvs → NTup H a
  | ⟨xs, h1, _⟩ => fun o e => by
    rw [h1] at e
    cases e
    exact ⟨(fun _ z => nomatch z), (fun _ _ z => nomatch z)⟩
theorem IsDN.there {K : PySem.W.Frag} {w : World} {H : Hp} {a : Addr} {kvs : List (NestedKey × V)} : IsDN β K w H a kvs → ∃ o, H a = some o
  | ⟨_, h, _⟩ => ⟨_, h⟩
theorem IsDN.ne_lst {K : PySem.W.Frag} {w : World} {H : Hp} {a l : Addr} {kvs : List (NestedKey × V)} {xs : List V} (d : IsDN β K w H a kvs) (h : H l = some (.lst xs)) : l ≠ a := fun z => by
  obtain ⟨ys, e, _⟩ := d
  rw [← z, h] at e
  cases e
theorem IsDN.ne_tup {K : PySem.W.Frag} {w : World} {H : Hp} {a l : Addr} {kvs : List (NestedKey × V)} {xs : List V} (d : IsDN β K w H a kvs) (h : H l = some (.tup xs)) : l ≠ a := fun z => by
  obtain ⟨ys, e, _⟩ := d
  rw [← z, h] at e
  cases e
theorem IsDN.nodup {K : PySem.W.Frag} {w : World} {H : Hp} {a : Addr} {kvs : List (NestedKey × V)} : IsDN β K w H a kvs → (kvs.map (·.1)).Nodup
  | ⟨_, _, r, _, _, n⟩ => by
    rw [KN.keys r]
    exact n
section
variable {X : Cx} {pins : List (Addr × Obj)} {σ : L2.St} {H : Hp} {s : Shared} {a b : Addr} {kvs : List (NestedKey × V)} {k : NestedKey} {v : V} {r : Value} {A : Around} {E : Value → Shared → Prop}
theorem dn_at (I : Inv X pins σ H s) (d : RdDN β X.K X.w H a kvs) : kvs.length ≤ sizeLine ∧ (a == sysModules) = false ∧ ∃ xs, Rd H a (DNO X.w a xs) ∧ KN β X.K H kvs xs ∧ s.heap.DictOfH (nestedKind X.prog X.w) a xs := by
  obtain ⟨xs, h1, h2, h3, h4, h5⟩ := d
  obtain ⟨⟨o, es, ep, e1, e2, e3, e4⟩, _⟩ := (show ObjOk X.prog X.w H s.heap a (DNO X.w a xs) from h1.ok I.hok)
  refine ⟨h3, h4, xs, h1, h2, o, es, ep, e1, e2, e3, e4, fun x hx => ?_, h5⟩
  have all : ∀ {l : List (NestedKey × V)} {m : List (NestedKey × Addr × Value)}, KN β X.K H l m → ∀ x ∈ m, (nestedKind X.prog X.w).is s.heap x.1 x.2.1 := by
    intro l m q
    induction q with
    | nil => intro x hx; exact nomatch hx
    | @cons p q ps qs hq t ih =>
      intro x hx
      rcases List.mem_cons.mp hx with e | hx
      · subst e
        refine ⟨nis_is I _ (.ref x.2.1) _ (by rw [← hq.1]; exact hq.2.1.1) rfl, ?_⟩
        rw [← hq.1]
        exact hq.2.1.2
      · exact ih x hx
  exact all h2 x hx
theorem dn_key (I : Inv X pins σ H s) (h : NIs β X.K H k (.ref b)) (hd : k.depth ≤ 8) : (nestedKind X.prog X.w).is s.heap k b := ⟨nis_is I _ (.ref b) _ h rfl, hd⟩
theorem dn_obj {P : Program} {w : World} {H : Hp} {h : Heap} {xs : List (NestedKey × Addr × Value)} (d : h.DictOfH (nestedKind P w) a xs) : ObjOk P w H h a (DNO w a xs) := by
  obtain ⟨o, es, ep, e1, e2, e3, e4, _⟩ := d
  refine ⟨⟨o, es, ep, e1, e2, e3, e4⟩, ⟨o, e1⟩, ?_⟩
  rintro h1 h2 ⟨o, es, ep, e1, e2, e3, e4⟩ st
  exact ⟨o, es, ep, st _ e1, e2, e3, e4⟩
/-- d[k], there -/
theorem n_getItem {Q : Value → Shared → Prop} (hu : A.units + 9 < cLine) (I : Inv X pins σ H s) (d : RdDN β X.K X.w H a kvs) (hk : NIs β X.K H k (.ref b)) (hd : k.depth ≤ 8) (l : valV kvs k = some v) (h : ∀ w' s', Inv X pins σ H s' → RelV v w' → Q w' s') :
    wpAny (model X.prog X.w) A (getItem (.ref a) (.ref b)) Q E s := by
  obtain ⟨z, hs, xs, _, rel, dd⟩ := dn_at I d
  obtain ⟨w', hw, rw'⟩ := RelO.some_of (v := v) (o := (atKey xs k).map (·.2)) (by rw [← l]; exact rel.val k)
  obtain ⟨p, hp, hp2⟩ := Option.map_eq_some_iff.mp hw
  refine wpAny_getItem_heap (show A.in1.units + 8 < cLine by show A.units + 1 + 8 < cLine; omega) (dn_key I hk hd) dd hp ?_
  rw [hp2]
  exact h w' _ (I.tok _) rw'
theorem n_in {Q : Value → Shared → Prop} (hu : A.units + 9 < cLine) (I : Inv X pins σ H s) (d : RdDN β X.K X.w H a kvs) (hk : NIs β X.K H k (.ref b)) (hd : k.depth ≤ 8) (h : ∀ s', Inv X pins σ H s' → Q (.bool (valV kvs k).isSome) s') :
    wpAny (model X.prog X.w) A (compareOp .In (.ref b) (.ref a)) Q E s := by
  obtain ⟨z, hs, xs, _, rel, dd⟩ := dn_at I d
  refine wpAny_in_heap (show A.in1.units + 8 < cLine by show A.units + 1 + 8 < cLine; omega) (dn_key I hk hd) hs dd ?_
  have q := (rel.val k).isSome_eq
  rw [Option.isSome_map] at q
  rw [← q]
  exact h _ (I.tok _)
theorem n_notIn {Q : Value → Shared → Prop} (hu : A.units + 9 < cLine) (I : Inv X pins σ H s) (d : RdDN β X.K X.w H a kvs) (hk : NIs β X.K H k (.ref b)) (hd : k.depth ≤ 8) (h : ∀ s', Inv X pins σ H s' → Q (.bool (!(valV kvs k).isSome)) s') :
    wpAny (model X.prog X.w) A (compareOp .NotIn (.ref b) (.ref a)) Q E s := by
  obtain ⟨z, hs, xs, _, rel, dd⟩ := dn_at I d
  refine wpAny_notIn_heap (show A.in1.units + 8 < cLine by show A.units + 1 + 8 < cLine; omega) (dn_key I hk hd) hs dd ?_
  have q := (rel.val k).isSome_eq
  rw [Option.isSome_map] at q
  rw [← q]
  exact h _ (I.tok _)
/-- d.get(k, x) -/
theorem n_getOr {x : V} {u : Value} {Q : Value → Shared → Prop} (hu : A.units + 9 < cLine) (I : Inv X pins σ H s) (d : RdDN β X.K X.w H a kvs) (hk : NIs β X.K H k (.ref b)) (hd : k.depth ≤ 8) (rx : RelV x u) (h : ∀ w' s', Inv X pins σ H s' → RelV ((valV kvs k).getD x) w' → Q w' s') :
    wpAny (model X.prog X.w) A (call (.builtin "dict.get") [.ref a, .ref b, u]) Q E s := by
  obtain ⟨z, hs, xs, _, rel, dd⟩ := dn_at I d
  have e : valueAt (pairsH xs) k = (atKey xs k).map (·.2) := valueAt_pairsH xs k
  refine getOr_keyed (kvs := pairsH xs) (show A.in1.units + 8 < cLine by show A.units + 1 + 8 < cLine; omega) (dn_key I hk hd) hs ⟨xs, dd, rfl⟩ ?_
  rw [e]
  exact h _ _ (I.tok _) ((rel.val k).getD rx)
/-- d[k] = v -/
theorem n_setItem {Q : Unit → Shared → Prop} (hu : A.units + 9 < cLine) (I : Inv X pins σ H s) (d : IsDN β X.K X.w H a kvs) (hk : NIs β X.K H k (.ref b)) (hd : k.depth ≤ 8) (rv : RelV v r) (hl : kvs.length < sizeLine)
    (h : ∀ H' s', Inv X pins σ H' s' → Exj a H H' → IsDN β X.K X.w H' a (putK kvs k v) → Q () s') : wpAny (model X.prog X.w) A (setItem (.ref a) (.ref b) r) Q E s := by
  obtain ⟨z, hs, xs, rea, rel, dd⟩ := dn_at I d.rdB
  have ea : Mut (H a) := by
    obtain ⟨_, e, _⟩ := d
    rw [e]
    exact True.intro
  have hz : xs.length ≤ sizeLine := by rw [← Paired.length rel]; exact z
  have hl' : (putK kvs k v).length ≤ sizeLine := by have := length_putK kvs k v; omega
  refine wpAny_setItem_heap (hsz := hz) (show A.in1.units + 8 < cLine by show A.units + 1 + 8 < cLine; omega) (dn_key I hk hd) dd fun h' dd' hs' => ?_
  have hq : ∃ q, h'.get? a = some q := let ⟨q, _, _, hq, _⟩ := dd'; ⟨q, hq⟩
  have ex : Exj a H (L2.upd H a (DNO X.w a (storedH xs k b r))) := (Exj.refl _ _).upd
  have nt := d.ntup
  refine h _ _ (d_write I ea hs' hq (dn_obj dd')) ex ⟨_, upd_same, (rel.put k ⟨hk, hd⟩ rv).map fun _ _ => sqT_keep ex nt, hl', hs, ?_⟩
  obtain ⟨_, _, _, _, _, _, _, _, n⟩ := dd'
  exact n
end
/-! ### readings and rules -/
def tNGet (K : PySem.W.Frag) (w : World) (td ty : TE) : TE := fun σ H Q => td σ H fun x H1 => ty σ H1 fun y H2 => ∃ a b kvs k v, x = .ref a ∧ y = .ref b ∧ RdDN true K w H2 a kvs ∧ NIs true K H2 k (.ref b) ∧ k.depth ≤ 8 ∧ valV kvs k = some v ∧ Q v H2
def tNIn (K : PySem.W.Frag) (w : World) (ty td : TE) : TE := fun σ H Q => ty σ H fun y H1 => td σ H1 fun x H2 => ∃ a b kvs k, x = .ref a ∧ y = .ref b ∧ RdDN true K w H2 a kvs ∧ NIs true K H2 k (.ref b) ∧ k.depth ≤ 8 ∧ Q (.bl (valV kvs k).isSome) H2
def tNNotIn (K : PySem.W.Frag) (w : World) (ty td : TE) : TE := fun σ H Q => ty σ H fun y H1 => td σ H1 fun x H2 => ∃ a b kvs k, x = .ref a ∧ y = .ref b ∧ RdDN true K w H2 a kvs ∧ NIs true K H2 k (.ref b) ∧ k.depth ≤ 8 ∧ Q (.bl (!(valV kvs k).isSome)) H2
def sNPut (K : PySem.W.Frag) (w : World) (td ty tv : TE) : TS := fun D σ H => tv σ H fun v H1 => td σ H1 fun x H2 => ty σ H2 fun y H3 => ∃ a b kvs k β, x = .ref a ∧ y = .ref b ∧ IsDN β K w H3 a kvs ∧ NIs β K H3 k (.ref b) ∧ k.depth ≤ 8 ∧ kvs.length < sizeLine ∧
  ∀ H4, Exj a H3 H4 → IsDN β K w H4 a (putK kvs k v) → D.nx σ H4
def tNNew (K : PySem.W.Frag) (w : World) : TE := fun _ H Q => ∀ p H', H p = none → Ex H H' → (∀ β, IsDN β K w H' p []) → Q (.ref p) H'
section
variable {X : Cx} {o i e value : Expr} {pos pos' tpos : Pos} {td ty tv : TE}
theorem RdDN.typeIs {pins : List (Addr × Obj)} {σ : L2.St} {H : Hp} {s : Shared} {a : Addr} {kvs : List (NestedKey × V)} (I : Inv X pins σ H s) (d : RdDN β X.K X.w H a kvs) : s.TypeIs (.ref a) "dict" := by
  obtain ⟨_, _, xs, _, _, dd⟩ := dn_at I d
  exact dd.typeIs
theorem pe_nget (hu : X.A.units + 64 < cLine) (ho : PE X o td) (hi : PE X i ty) (hs : NoSl i) : PE X (.Subscript o i pos) (tNGet X.K X.w td ty) := by
  refine ⟨fun pins s σ H Q I h => ?_⟩
  refine subD_of PySem.F.slot_dict_getitem.lookup hs (thn (ho.run pins s σ H _ I h) fun u s1 ⟨x, H1, I1, rx, q1⟩ => thn (hi.run pins s1 σ H1 _ I1 q1) fun iv s2 ⟨y, H2, I2, ry, a, b, kvs, k, v, ex, ey, d, hk, hd, l, q2⟩ => ?_)
  subst ex ey
  obtain rfl : u = Value.ref a := rx
  obtain rfl : iv = Value.ref b := ry
  exact ⟨d.typeIs I2, n_getItem (by omega) I2 d hk hd l fun w' s3 I3 rw' => ⟨v, H2, I3, rw', q2⟩⟩
theorem pc_nin (hu : X.A.units + 64 < cLine) (hi : PE X i ty) (ho : PE X o td) : PC X .In i o (tNIn X.K X.w ty td) := by
  refine ⟨fun pins s σ H Q I h => ?_⟩
  refine thn (hi.run pins s σ H _ I h) fun iv s1 ⟨y, H1, I1, ry, q1⟩ => thn (ho.run pins s1 σ H1 _ I1 q1) fun u s2 ⟨x, H2, I2, rx, a, b, kvs, k, ex, ey, d, hk, hd, q2⟩ => ?_
  subst ex ey
  obtain rfl : u = Value.ref a := rx
  obtain rfl : iv = Value.ref b := ry
  exact n_in (by omega) I2 d hk hd fun s3 I3 => ⟨.bl _, H2, I3, rfl, q2⟩
theorem pc_nnotin (hu : X.A.units + 64 < cLine) (hi : PE X i ty) (ho : PE X o td) : PC X .NotIn i o (tNNotIn X.K X.w ty td) := by
  refine ⟨fun pins s σ H Q I h => ?_⟩
  refine thn (hi.run pins s σ H _ I h) fun iv s1 ⟨y, H1, I1, ry, q1⟩ => thn (ho.run pins s1 σ H1 _ I1 q1) fun u s2 ⟨x, H2, I2, rx, a, b, kvs, k, ex, ey, d, hk, hd, q2⟩ => ?_
  subst ex ey
  obtain rfl : u = Value.ref a := rx
  obtain rfl : iv = Value.ref b := ry
  exact n_notIn (by omega) I2 d hk hd fun s3 I3 => ⟨.bl _, H2, I3, rfl, q2⟩
theorem ps_nput (hu : X.A.units + 64 < cLine) (ho : PE X o td) (hi : PE X i ty) (hv : PE X value tv) (hs : swapsWith value (some (.Subscript o i pos')) pos.line X.env = pure false) :
    PS X (.Assign [.Subscript o i pos'] value pos) (sNPut X.K X.w td ty tv) := by
  refine ⟨fun pins s σ H D I h => ?_⟩
  refine wpAny_Assign_Subscript (thn (hv.run pins s σ H _ I h) fun r s1 ⟨v, H1, I1, rv, q1⟩ => thn (ho.run pins s1 σ H1 _ I1 q1) fun u s2 ⟨x, H2, I2, rx, q2⟩ => thn (hi.run pins s2 σ H2 _ I2 q2) fun iv s3 ⟨y, H3, I3, ry, a, b, kvs, k, β, ex, ey, d, hk, hd, hl, q3⟩ => ?_) hs
  subst ex ey
  obtain rfl : u = Value.ref a := rx
  obtain rfl : iv = Value.ref b := ry
  exact n_setItem (by omega) I3 d hk hd rv hl fun H4 s4 I4 e4 d4 => ⟨σ, H4, I4, q3 H4 e4 d4⟩
theorem pe_nnew : PE X (.Dict [] [] pos) (tNNew X.K X.w) := by
  refine ⟨fun pins s σ H Q I h => ?_⟩
  have hp := I.hok.fresh (Nat.le_refl s.heap.objs.size)
  have hb : ((s.heap.objs.size : Addr) == sysModules) = false := beq_eq_false_iff_ne.mpr (Ne.symm (Nat.ne_of_lt I.big))
  have dd : (s.heap.push { cls := .type "dict", data := .dict #[] }).DictOfH (nestedKind X.prog X.w) s.heap.objs.size [] := Heap.DictOfH.new s.heap
  have I1 := I.laid (a := s.heap.objs.size) (o := DNO X.w s.heap.objs.size []) (t' := s.toks) (fun _ _ q => Heap.get?_push_of_some _ q) (Nat.le_refl _) (dn_obj dd)
  exact wpAny_Dict_empty ⟨.ref s.heap.objs.size, _, I1, rfl, h _ _ hp (Evl.Ex.new hp) fun β => ⟨[], upd_same, .nil, Nat.zero_le _, hb, List.nodup_nil⟩⟩
def tNGet2 (K : PySem.W.Frag) (w : World) (td ty tx : TE) : TE := fun σ H Q => td σ H fun x H1 => ∃ a, x = .ref a ∧ (∃ kvs, RdDN true K w H1 a kvs) ∧ ty σ H1 fun y H2 => tx σ H2 fun z H3 => ∃ kvs k b, y = .ref b ∧ RdDN true K w H3 a kvs ∧ NIs true K H3 k (.ref b) ∧ k.depth ≤ 8 ∧ Q ((valV kvs k).getD z) H3
/-- d.get(k, x) -/
theorem pe_nget2 {f : Expr} {tx : TE} {apos cpos : Pos} (hu : X.A.units + 64 < cLine) (ho : PE X o td) (he : PE X e ty) (hf : PE X f tx) (m : M2 X o "get" apos e f cpos) : PE X (.Call (.Attribute o "get" apos) [e, f] [] cpos) (tNGet2 X.K X.w td ty tx) := by
  refine ⟨fun pins s σ H Q I h => ?_⟩
  refine wpAny_Call_method m.base m.few m.line PySem.F.plainAttrs_dict PySem.F.slot_dict_get PySem.F.type_dict_get (thn (ho.run pins s σ H _ I h) fun u s1 ⟨x, H1, I1, rx, a, ex, ⟨kvs0, d0⟩, q1⟩ => ?_)
  subst ex
  obtain rfl : u = Value.ref a := rx
  refine ⟨d0.typeIs I1, fun b q => ?_, ?_⟩
  · cases q
    obtain ⟨_, _, _, _, _, ob, _, _, h1, h2, _⟩ := dn_at I1 d0
    exact ⟨ob, h1, h2.2.1⟩
  rw [m.trees]
  refine Calls.callWith_builtin rfl (Calls.evalArgs_plain (Calls.spliced_cons (thn (he.run pins s1 σ H1 _ I1 q1) fun iv s2 ⟨y, H2, I2, ry, q2⟩ =>
    Calls.spliced_cons (thn (hf.run pins s2 σ H2 _ I2 q2) fun fv s3 ⟨z, H3, I3, rz, q3⟩ => Calls.spliced_nil ?_))))
  obtain ⟨kvs, k, b, ey, d, hk, hd, q3⟩ := q3
  subst ey
  obtain rfl : iv = Value.ref b := ry
  exact n_getOr (by omega) I3 d hk hd rz fun w' s4 I4 rw' => ⟨_, H3, I4, rw', q3⟩
def rLenN (K : PySem.W.Frag) (w : World) : List V → Hp → VK → Prop := fun xs H Q => ∃ (p : Addr) (kvs : List (NestedKey × V)), xs = [.ref p] ∧ RdDN true K w H p kvs ∧ Q (.int ((kvs.length : Nat) : Int)) H
theorem call_lenN : CallR X (.builtin "len") (rLenN X.K X.w) := by
  intro pins s σ H xs us Q I r h
  obtain ⟨p, kvs, rfl, hp, q⟩ := h
  obtain ⟨u, rfl, rx⟩ := vals1 r
  obtain rfl : u = .ref p := rx
  obtain ⟨z, hd, ys, _, rel, dd⟩ := dn_at I hp
  have hl : kvs.length = ys.length := Paired.length rel
  refine call_len_dictH hd dd (by rw [← hl]; rw [sizeLine_eq] at z; omega) ?_
  rw [← hl]
  exact ⟨.int ((kvs.length : Nat) : Int), H, I.tok _, ⟨_, rfl⟩, q⟩
theorem dict_pairsN {prog : Program} {w : World} {A : Around} {E : Value → Shared → Prop} {s : Shared} {env : Env} {keys : List (Option Expr)} {values : List Expr} {pos : Pos} {pairs : List (Sem Value × Sem Value)} {Q : Value → Shared → Prop} (hu : (nestedKind prog w).room A)
    (hshape : (evalEachOpt keys env).zip ((evalEach values env).map fun v => do let x ← v; standAt pos; pure x) = pairs.map fun p => (some p.1, p.2)) (h0 : pairs ≠ []) (hlen : pairs.length ≤ 15)
    (h : wpAny (model prog w) A (evalPairs pairs) (fun vs s₁ => ∃ ps, CarriesH (nestedKind prog w) s₁.heap vs ps ∧ s₁.heap.DictOfH (nestedKind prog w) s.heap.objs.size [] ∧
      ∀ h' tk, h'.DictOfH (nestedKind prog w) s.heap.objs.size (storedAllH [] ps) → Heap.SameBut s.heap.objs.size s₁.heap h' → Q (.ref s.heap.objs.size) { s₁ with heap := h', toks := tk }) E
      { s with heap := s.heap.push { cls := .type "dict", data := .dict #[] } }) :
    wpAny (model prog w) A (eval (.Dict keys values pos) env) Q E s := by
  rw [arm_eval_Dict, hshape, dictDisplay_pairs pairs h0 (by omega)]
  exact wpAny_bind (wpAny_standAt (wpAny_bind (wpAny_subDictH (knd := nestedKind prog w) (Q := fun d s' => wpAny (model prog w) A (pure (Value.ref d)) Q E s') hu hlen
    (wpAny_mono h (fun vs s₁ h₁ => by obtain ⟨ps, hc, hm, hq⟩ := h₁; exact ⟨ps, hc, hm, fun h' tk a b => wpAny_pure (hq h' tk a b)⟩) fun _ _ e => e))))
/-- {k: v} -/
def tNDisp1 (K : PySem.W.Frag) (w : World) (tk tv : TE) : TE := fun σ H Q => ∀ p H1, H p = none → Ex H H1 → H1 p = some (DNO w p []) → tk σ H1 fun x H2 => tv σ H2 fun y H3 => H3 p = some (DNO w p []) ∧ ∃ k b β, x = .ref b ∧ NIs β K H3 k (.ref b) ∧ k.depth ≤ 8 ∧ ∀ H4, Exj p H3 H4 → IsDN β K w H4 p [(k, y)] → Q (.ref p) H4
theorem pe_ndisp1 {k v : Expr} {tk tv : TE} (hu : X.A.units + 64 < cLine) (hk : PE X k tk) (hv : PE X v tv) : PE X (.Dict [some k] [v] pos) (tNDisp1 X.K X.w tk tv) := by
  refine ⟨fun pins s σ H Q I q => ?_⟩
  have hn := I.hok.fresh (Nat.le_refl s.heap.objs.size)
  have hb : ((s.heap.objs.size : Addr) == sysModules) = false := beq_eq_false_iff_ne.mpr (Ne.symm (Nat.ne_of_lt I.big))
  have dd0 : (s.heap.push { cls := .type "dict", data := .dict #[] }).DictOfH (nestedKind X.prog X.w) s.heap.objs.size [] := Heap.DictOfH.new s.heap
  have I1 := I.laid (a := s.heap.objs.size) (o := DNO X.w s.heap.objs.size []) (t' := s.toks) (fun _ _ q => Heap.get?_push_of_some _ q) (Nat.le_refl _) (dn_obj dd0)
  refine dict_pairsN (pairs := pairTrees [some k] [v] X.env pos) (show X.A.units + 8 < cLine by omega) (zip_pairTrees [some k] [v] X.env pos rfl rfl) (fun z => nomatch z) (show 1 ≤ 15 by decide) ?_
  refine pairTrees_cons_walk (thn (hk.run pins _ σ _ _ I1 (q _ _ hn (Evl.Ex.new hn) upd_same)) fun u s1 ⟨x, H2, I2, rx, q1⟩ => thn (hv.run pins s1 σ H2 _ I2 q1) fun r s2 ⟨y, H3, I3, ry, e, kk, b, β, ex, hkk, hd, q2⟩ => ?_)
  subst ex
  obtain rfl : u = Value.ref b := rx
  refine pairTrees_nil_walk ?_
  have d0 : IsDN β X.K X.w H3 s.heap.objs.size [] := ⟨[], e, .nil, Nat.zero_le _, hb, List.nodup_nil⟩
  obtain ⟨_, _, xs, ea, rel, dd⟩ := dn_at I3 d0.rdB
  cases rel
  refine ⟨[(kk, b, r)], ⟨rfl, rfl, dn_key I3 hkk hd, trivial⟩, dd, fun h' tk dd' hs => ?_⟩
  have dd' : h'.DictOfH (nestedKind X.prog X.w) s.heap.objs.size [(kk, b, r)] := dd'
  have hq : ∃ q, h'.get? s.heap.objs.size = some q := let ⟨q, _, _, hq, _⟩ := dd'; ⟨q, hq⟩
  have exj : Exj s.heap.objs.size H3 (L2.upd H3 s.heap.objs.size (DNO X.w s.heap.objs.size [(kk, b, r)])) := (Exj.refl _ _).upd
  have I4 := d_write (t' := tk) I3 (by rw [e]; exact True.intro) hs hq (dn_obj dd')
  exact ⟨.ref s.heap.objs.size, _, I4, rfl, q2 _ exj ⟨_, upd_same, .cons ⟨rfl, ⟨NIs.keep exj d0.ntup hkk, hd⟩, ry⟩ .nil, by show 1 ≤ sizeLine; decide, hb, by simp⟩⟩
end
/-! ### walked by its keys -/
section
variable {P : Program} {w : World} {K : PySem.W.Frag} {tg : Expr} {X : Cx} {pins : List (Addr × Obj)} {σ : L2.St} {H : Hp} {s : Shared} {d : Addr} {o : Obj} {xs : List (NestedKey × Addr × Value)} {es : Array DictEntry} {ep : Nat}
theorem frzN (I : Inv X pins σ H s) (h : H d = some (.frz o (DNO X.w d xs))) : s.heap.get? d = some o ∧ o.ExactDict ∧ ∃ (es : Array DictEntry) (ep : Nat), o.data = .dict es ep ∧ es.size = xs.length ∧ ∀ (i : Nat) q, xs[i]? = some q → es[i]? = some (entN X.w q) := by
  obtain ⟨hd, ⟨o', es, ep, ho, hx, hdt, he⟩, _⟩ := I.hok d _ h
  rw [hd] at ho
  cases ho
  refine ⟨hd, hx, es, ep, hdt, ?_, fun i q e => ?_⟩
  · have := congrArg List.length he
    simpa using this
  · have : es.toList[i]? = some (entN X.w q) := by rw [he, List.getElem?_map, e]; rfl
    simpa using this
def Itkn (w : World) (d : Addr) (o : Obj) (xs : List (NestedKey × Addr × Value)) : It :=
  ⟨fun i H => H d = some (.frz o (DNO w d xs)) ∧ i < xs.length, fun i H x H' => H' = H ∧ ∃ q, xs[i]? = some q ∧ x = .ref q.2.1, fun i H => H d = some (.frz o (DNO w d xs)) ∧ xs.length ≤ i⟩
theorem turn_keysN (it : Addr) (hod : o.data = .dict es ep) : Turn P w K tg (Itkn w d o xs) [it] it (fun i h => h.IsKeyIter it d i xs.length ep) where
  mem := by simp
  obj := fun i h st b hb => by
    have e : b = it := by simpa using hb
    subst e
    obtain ⟨oi, e, c, dd⟩ := st
    exact ⟨oi, e, fun v z => by rw [dd] at z; cases z⟩
  keep := fun i h h' st k => st.at fun oi e => k it (by simp) oi e
  item := by
    intro X hP hw hK hc i pins s σ H E I hf st hg
    subst hP hw hK
    obtain ⟨hd, hi⟩ := hg
    obtain ⟨f0, f1, f2, f3, f4, f5⟩ := hf it (by simp)
    obtain ⟨hgd, hx, es', ep', hdt, hsz, ent⟩ := frzN I hd
    obtain ⟨rfl, rfl⟩ := dict_ep hod hdt
    obtain ⟨q, hq⟩ : ∃ p, xs[i]? = some p := ⟨xs[i], List.getElem?_eq_getElem hi⟩
    refine next_key_item st hgd hdt hsz (ent i q hq) fun h' st' sb => ?_
    have I1 : Inv X pins σ H { s with heap := h' } := I.turned (t' := s.toks) (fun b ob hb e => (sb.2 b hb).trans e) f0 f1 f3 f4 f5
    obtain ⟨oi, e, c, dd⟩ := id st'
    exact ⟨.ref q.2.1, rfl, go_of (s := { s with heap := h' }) e c dd (by decide) ⟨.ref q.2.1, H, I1, rfl, ⟨rfl, q, hq, rfl⟩, st', fun b hb => (hf b hb).1⟩⟩
  done := by
    intro X hP hw hK hc i pins s σ H E I hf st hg
    subst hP hw hK
    obtain ⟨hd, hi⟩ := hg
    obtain ⟨f0, f1, f2, f3, f4, f5⟩ := hf it (by simp)
    obtain ⟨hgd, hx, es', ep', hdt, hsz, ent⟩ := frzN I hd
    obtain ⟨rfl, rfl⟩ := dict_ep hod hdt
    exact next_key_end (I.ok.hd hc) st hgd hdt hsz hi fun h' eb => ⟨rfl, I.turned (t' := s.toks) (fun b ob hb e => eb b ob hb e) f0 f1 f3 f4 f5⟩
  self := fun A i s Q E st h => by
    refine wpAny_pyIter_slot st.typeIs F.slot_dict_keyiterator_iter (wpAny_call_entry F.slot_dict_keyiterator_iter st.typeIs F.entry_dict_keyiterator_iter ?_ (F.args_dict_keyiterator_iter_1 _))
    show wpAny _ _ (ret (.ref it)) _ _ s
    exact wpAny_pure ⟨_, rfl, "dict_keyiterator", _, st.typeIs, F.slot_dict_keyiterator_next.lookup, h⟩
def iKeysN (w : World) (td : TE) : TI := fun σ H R => td σ H fun x H1 => ∃ d o xs, x = .ref d ∧ H1 d = some (.frz o (DNO w d xs)) ∧ (d == sysModules) = false ∧ R (Itkn w d o xs) H1
theorem pi_keysN {e : Expr} {td : TE} (he : PE X e td) : PI X tg e (iKeysN X.w td) := by
  refine ⟨fun pins s σ H R I h => ?_⟩
  refine thn (he.run pins s σ H _ I h) fun u s1 ⟨x, H1, I1, rx, d, o, xs, ex, hd, hs, q⟩ => ?_
  subst ex
  obtain rfl : u = Value.ref d := rx
  obtain ⟨hgd, hx, es, ep, hdt, hsz, ent⟩ := frzN I1 hd
  refine iter_keys hs hgd hx hdt (pi_one (tk := s1.toks) I1 _ (turn_keysN _ hdt) ⟨_, Heap.get?_push_size _ rfl, rfl, ?_⟩ q)
  rw [hsz] <;> rfl
end
/-- the for over the keys of a locked dict -/
theorem for_keysN {w : World} {d : Addr} {o : Obj} {xs : List (NestedKey × Addr × Value)} {g : TG} {tb : TS} {D : Ends} {σ : L2.St} {H : Hp} (Pv : Nat → L2.St → Hp → Prop) (h0 : Pv 0 σ H) (hl : ∀ i σ H, i ≤ xs.length → Pv i σ H → H d = some (.frz o (DNO w d xs)))
    (hs : ∀ i q σ H, xs[i]? = some q → Pv i σ H → g (.ref q.2.1) σ H fun σ2 H2 => tb { D with nx := Pv (i + 1), ct := Pv (i + 1), bk := D.nx } σ2 H2) (hd : ∀ σ H, Pv xs.length σ H → D.nx σ H) :
    ∃ W : Nat → Nat → L2.St → Hp → Prop, (∃ m, W 0 m σ H) ∧ ∀ i m σ H, W i m σ H →
      ((Itkn w d o xs).stop i H ∧ D.nx σ H) ∨ ((Itkn w d o xs).go i H ∧ ∃ N : L2.St → Hp → Prop, (∀ σ' H', N σ' H' → ∃ m', m' < m ∧ W (i + 1) m' σ' H') ∧ ∀ x H', (Itkn w d o xs).yld i H x H' → g x σ H' fun σ2 H2 => tb { D with nx := N, ct := N, bk := D.nx } σ2 H2) := by
  refine ⟨fun i m σ H => m = xs.length - i ∧ i ≤ xs.length ∧ Pv i σ H, ⟨xs.length, by simp, Nat.zero_le _, h0⟩, ?_⟩
  rintro i m σ H ⟨rfl, hi, p⟩
  have q := hl i σ H hi p
  by_cases hlt : i < xs.length
  · refine .inr ⟨⟨q, hlt⟩, Pv (i + 1), fun σ' H' p' => ⟨xs.length - (i + 1), by omega, rfl, hlt, p'⟩, fun x H' y => ?_⟩
    obtain ⟨e, z, hz, rfl⟩ := y
    subst e
    exact hs i z σ _ hz p
  · have e : i = xs.length := by omega
    subst e
    exact .inl ⟨⟨q, Nat.le_refl _⟩, hd σ H p⟩
/-! ### dict(list of pairs) -/
abbrev PairN (β : Bool) (K : PySem.W.Frag) (H : Hp) (p : Addr) (kv : NestedKey × V) : Prop := ∃ b, SqT K H p [.ref b, kv.2] ∧ NIs β K H kv.1 (.ref b) ∧ kv.1.depth ≤ 8
def putAllN (kvs more : List (NestedKey × V)) : List (NestedKey × V) := more.foldl (fun acc kv => putK acc kv.1 kv.2) kvs
theorem putAllN_len : ∀ (more kvs : List (NestedKey × V)), (putAllN kvs more).length ≤ kvs.length + more.length
  | [], kvs => Nat.le_refl _
  | p :: r, kvs => by
    have h1 := putAllN_len r (putK kvs p.1 p.2)
    have h2 := length_putK kvs p.1 p.2
    show (putAllN (putK kvs p.1 p.2) r).length ≤ _
    rw [List.length_cons]
    omega
theorem KN.putAll {K : PySem.W.Frag} {H : Hp} {more : List (NestedKey × V)} {ys : List (NestedKey × Addr × Value)} (r : KN β K H more ys) : ∀ {kvs : List (NestedKey × V)} {xs : List (NestedKey × Addr × Value)}, KN β K H kvs xs → KN β K H (putAllN kvs more) (storedAllH xs ys) := by
  induction r with
  | nil => exact fun q => q
  | @cons p q ps qs h t ih =>
    intro kvs xs r0
    have e : KN β K H (putK kvs p.1 p.2) (storedH xs q.1 q.2.1 q.2.2) := by
      have := r0.put p.1 (b := q.2.1) h.2.1 h.2.2
      rw [← h.1]
      exact this
    exact ih e
section
variable {X : Cx} {pins : List (Addr × Obj)} {σ : L2.St} {H : Hp} {s : Shared}
theorem pairs_ofN (I : Inv X pins σ H s) {ps : List Addr} {kvs : List (NestedKey × V)} (h : Paired (PairN β X.K H) ps kvs) : ∃ xs, KN β X.K H kvs xs ∧ xs.length = ps.length ∧ ∀ (j : Nat) q, xs[j]? = some q → ∃ p, ps[j]? = some p ∧ s.heap.IsTuple p #[.ref q.2.1, q.2.2] := by
  induction h with
  | nil => exact ⟨[], .nil, rfl, fun j q e => by simp at e⟩
  | @cons p kv ps kvs h t ih =>
    obtain ⟨b, h1, h2, h3⟩ := h
    obtain ⟨xs, r, hl, hp⟩ := ih
    obtain ⟨its, rv, ht, _⟩ := I.tuple h1
    obtain ⟨u, y, ei, ru, ry⟩ := vals2 rv
    subst ei
    obtain rfl : u = Value.ref b := ru
    refine ⟨(kv.1, b, y) :: xs, .cons ⟨rfl, ⟨h2, h3⟩, ry⟩ r, by rw [List.length_cons, List.length_cons, hl], fun j q e => ?_⟩
    cases j with
    | zero =>
      obtain rfl : (kv.1, b, y) = q := Option.some.inj e
      obtain ⟨o, e1, e2, n, e3⟩ := ht
      exact ⟨p, rfl, o, e1, e2, n, e3⟩
    | succ j =>
      obtain ⟨b', e1, e2⟩ := hp j q (by simpa using e)
      exact ⟨b', by simpa using e1, e2⟩
end
def rDictN (K : PySem.W.Frag) (w : World) : List V → Hp → VK → Prop := fun xs H Q => ∃ (a : Addr) (ps : List Addr) (kvs : List (NestedKey × V)) (β : Bool), xs = [.ref a] ∧ SqL K H a (ps.map V.ref) ∧ Paired (PairN β K H) ps kvs ∧ ∀ p H', H p = none → Ex H H' → IsDN β K w H' p (putAllN [] kvs) → Q (.ref p) H'
theorem call_dictN {X : Cx} (hcalm : X.calm = true) (hu : X.A.units + 64 < cLine) : CallR X (.type "dict") (rDictN X.K X.w) := by
  intro pins s σ H xs us Q I r q
  obtain ⟨a, ps, kvs, β, ex, hq, hp, q⟩ := q
  subst ex
  obtain ⟨u, eu, rx⟩ := vals1 r
  subst eu
  cases rx
  obtain ⟨its, rv, pl, hz⟩ := I.list hq
  have ei := refs_at rv
  subst ei
  rw [List.length_map] at hz
  obtain ⟨xs, rel, hl, hpr⟩ := pairs_ofN I hp
  obtain ⟨o, n, ho, hc, hd, hdat⟩ := pl
  have P := PairArg.list (prog := X.prog) (w := X.w) a (ps.map Value.ref).toArray (fun j => ps.getD j 0) (xs.map fun q => (Value.ref q.2.1, q.2.2))
  have isk : ∀ x ∈ xs, (nestedKind X.prog X.w).is s.heap x.1 x.2.1 := by
    have all : ∀ {l : List (NestedKey × V)} {m : List (NestedKey × Addr × Value)}, KN β X.K H l m → ∀ x ∈ m, (nestedKind X.prog X.w).is s.heap x.1 x.2.1 := by
      intro l m q
      induction q with
      | nil => intro x hx; exact nomatch hx
      | @cons p q ps qs hq t ih =>
        intro x hx
        rcases List.mem_cons.mp hx with e | hx
        · subst e
          refine ⟨nis_is I _ (.ref x.2.1) _ (by rw [← hq.1]; exact hq.2.1.1) rfl, ?_⟩
          rw [← hq.1]
          exact hq.2.1.2
        · exact ih x hx
    exact all rel
  refine call_dict_pairsH (knd := nestedKind X.prog X.w) (ps := xs) P (I.ok.hd hcalm) (show X.A.units + 1 + 1 + 8 < cLine by omega) ⟨⟨o, n, ho, hc, hd, hdat⟩, by simp [hl], fun j k v e => ?_⟩ ⟨by simp, fun i key v e => ?_⟩ (fun h' hk x hx => nestedKind_stays.stays (fun b ob vs m e _ => hk b ob (Nat.ne_of_lt (Heap.lt_size e)) (fun z => nomatch z) e) (isk x hx)) (by rw [List.length_map, hl]; exact hz) fun h' tk hd' k => ?_
  · rw [List.getElem?_map] at e
    cases e2 : xs[j]? with
    | none =>
      rw [e2] at e
      cases e
    | some q' =>
      rw [e2] at e
      obtain ⟨p, e3, e4⟩ := hpr j q' e2
      have e := Option.some.inj e
      injection e with e5 e6
      subst e5 e6
      have eg : ps.getD j 0 = p := by rw [List.getD_eq_getElem?_getD, e3]; rfl
      refine ⟨by simp [e3], .inl ?_⟩
      show s.heap.IsTuple (ps.getD j 0) _
      rw [eg]
      exact e4
  · have e : (xs.map fun q => (Value.ref q.2.1, q.2.2))[i]? = some (key, v) := e
    rw [List.getElem?_map] at e
    cases e2 : xs[i]? with
    | none =>
      rw [e2] at e
      cases e
    | some q' =>
      rw [e2] at e
      have e := Option.some.inj e
      injection e with e5 e6
      exact ⟨q'.1, q'.2.1, by rw [← e6], e5.symm⟩
  · have hm : (s.heap.objs.size == sysModules) = false := beq_eq_false_iff_ne.mpr (Nat.ne_of_gt I.big)
    have hn := I.hok.fresh (Nat.le_refl s.heap.objs.size)
    have hlen : (putAllN [] kvs).length ≤ sizeLine := by
      refine Nat.le_trans (putAllN_len kvs []) ?_
      rw [List.length_nil, Nat.zero_add, Paired.length rel, hl]
      exact hz
    have ex : Ex H (L2.upd H s.heap.objs.size (DNO X.w s.heap.objs.size (storedAllH [] xs))) := Evl.Ex.new hn
    have nd : ((storedAllH [] xs).map (·.1)).Nodup := by
      obtain ⟨_, _, _, _, _, _, _, _, n⟩ := hd'
      exact n
    exact ⟨.ref s.heap.objs.size, _, I.laid (t' := tk) (fun b ob e => k b ob (fun z => nomatch z) e) (Nat.le_refl _) (dn_obj hd'), rfl, q _ _ hn ex ⟨_, upd_same, (KN.putAll rel .nil).map fun _ _ => sqT_exN ex, hlen, hm, nd⟩⟩
end My
set_option Elab.async false
set_option linter.all false
set_option maxRecDepth 100000
set_option maxHeartbeats 4000000
namespace K27
open PySem L2 My
def topS (i : Nat) : Stmt := PySem.Challenge.pw_listwindow_k27_borders_blocks_and_costs.main.body.getD i (.Pass ⟨0, 0, 0, 0⟩)
abbrev PR : Program := PySem.Challenge.pw_listwindow_k27_borders_blocks_and_costs
abbrev s_init : Stmt := inClass (topS 1) 0
abbrev s_check_there : Stmt := topS 5
theorem sc_check_there : FnScope ["there"] ["there"] (defScope s_check_there) := ⟨rfl, rfl, rfl, by decide +kernel, rfl, by decide +kernel, by decide +kernel⟩
abbrev s_are_marks : Stmt := topS 6
theorem sc_are_marks : FnScope ["marks", "one", "other"] ["marks"] (defScope s_are_marks) := ⟨rfl, rfl, rfl, by decide +kernel, rfl, by decide +kernel, by decide +kernel⟩
abbrev s_check_marks : Stmt := topS 7
theorem sc_check_marks : FnScope ["marks"] ["marks"] (defScope s_check_marks) := ⟨rfl, rfl, rfl, by decide +kernel, rfl, by decide +kernel, by decide +kernel⟩
abbrev s_check_marks_there : Stmt := topS 8
theorem sc_check_marks_there : FnScope ["there", "marks", "row"] ["there", "marks"] (defScope s_check_marks_there) := ⟨rfl, rfl, rfl, by decide +kernel, rfl, by decide +kernel, by decide +kernel⟩
abbrev s_borders_in : Stmt := topS 9
theorem sc_borders_in : FnScope ["there", "marks", "flags", "row", "place"] ["there", "marks"] (defScope s_borders_in) := ⟨rfl, rfl, rfl, by decide +kernel, rfl, by decide +kernel, by decide +kernel⟩
abbrev s_blocks_of : Stmt := topS 10
theorem sc_blocks_of : FnScope ["places", "found", "border"] ["places"] (defScope s_blocks_of) := ⟨rfl, rfl, rfl, by decide +kernel, rfl, by decide +kernel, by decide +kernel⟩
abbrev s_cost_in : Stmt := topS 11
theorem sc_cost_in : FnScope ["there", "marks", "first", "last"] ["there", "marks"] (defScope s_cost_in) := ⟨rfl, rfl, rfl, by decide +kernel, rfl, by decide +kernel, by decide +kernel⟩
abbrev s_borders : Stmt := topS 12
theorem sc_borders : FnScope ["there", "marks"] ["there", "marks"] (defScope s_borders) := ⟨rfl, rfl, rfl, by decide +kernel, rfl, by decide +kernel, by decide +kernel⟩
abbrev s_blocks : Stmt := topS 13
theorem sc_blocks : FnScope ["there", "marks"] ["there", "marks"] (defScope s_blocks) := ⟨rfl, rfl, rfl, by decide +kernel, rfl, by decide +kernel, by decide +kernel⟩
abbrev s_cost : Stmt := topS 14
theorem sc_cost : FnScope ["there", "marks"] ["there", "marks"] (defScope s_cost) := ⟨rfl, rfl, rfl, by decide +kernel, rfl, by decide +kernel, by decide +kernel⟩
abbrev s__law_source : Stmt := topS 16
theorem sc__law_source : FnScope ["_law_script", "_law_index", "_law_cell"] ["_law_script", "_law_index"] (defScope s__law_source) := ⟨rfl, rfl, rfl, by decide +kernel, rfl, by decide +kernel, by decide +kernel⟩
abbrev s__law_draw : Stmt := topS 17
theorem sc__law_draw : FnScope ["_law_source_here", "_law_bound", "_law_digit", "_law_mixed"] ["_law_source_here", "_law_bound"] (defScope s__law_draw) := ⟨rfl, rfl, rfl, by decide +kernel, rfl, by decide +kernel, by decide +kernel⟩
abbrev s__law_some : Stmt := topS 18
theorem sc__law_some : FnScope ["_law_source_here", "_law_things", "_law_size", "_law_left", "_law_step"] ["_law_source_here", "_law_things", "_law_size"] (defScope s__law_some) := ⟨rfl, rfl, rfl, by decide +kernel, rfl, by decide +kernel, by decide +kernel⟩
abbrev s__law_done : Stmt := topS 20
theorem sc__law_done : FnScope ["_law_there", "_law_marks", "_law_anchor", "_law_clicks_here", "_law_now", "_law_word", "_law_position", "_law_row", "_law_at", "_law_wanted", "_law_place"] ["_law_there", "_law_marks", "_law_anchor", "_law_clicks_here"] (defScope s__law_done) := ⟨rfl, rfl, rfl, by decide +kernel, rfl, by decide +kernel, by decide +kernel⟩
abbrev s__law_borders : Stmt := topS 21
theorem sc__law_borders : FnScope ["_law_there", "_law_marks", "_law_found", "_law_place", "_law_ahead"] ["_law_there", "_law_marks"] (defScope s__law_borders) := ⟨rfl, rfl, rfl, by decide +kernel, rfl, by decide +kernel, by decide +kernel⟩
abbrev s__law_cost : Stmt := topS 22
theorem sc__law_cost : FnScope ["_law_there", "_law_marks", "_law_found", "_law_length", "_law_told", "_law_border"] ["_law_there", "_law_marks"] (defScope s__law_cost) := ⟨rfl, rfl, rfl, by decide +kernel, rfl, by decide +kernel, by decide +kernel⟩
abbrev s__law_blocks : Stmt := topS 23
theorem sc__law_blocks : FnScope ["_law_found", "_law_told", "_law_border"] ["_law_found"] (defScope s__law_blocks) := ⟨rfl, rfl, rfl, by decide +kernel, rfl, by decide +kernel, by decide +kernel⟩
abbrev s__law_fewest : Stmt := topS 24
theorem sc__law_fewest : FnScope ["_law_there", "_law_anchor", "_law_moves", "_law_layer", "_law_seen", "_law_found", "_law_number", "_law_later", "_law_marks", "_law_own", "_law_move", "_law_behind", "_law_state", "_law_place"] ["_law_there", "_law_anchor"] (defScope s__law_fewest) := ⟨rfl, rfl, rfl, by decide +kernel, rfl, by decide +kernel, by decide +kernel⟩
abbrev s_law : Stmt := topS 25
theorem sc_law : FnScope ["_law_script", "_law_index", "_law_source_here", "_law_size", "_law_there", "_law_some_here", "_law_marks", "_law_more", "_law_due", "_law_told", "_law_short", "_law_found", "_law_own"] ["_law_script"] (defScope s_law) := ⟨rfl, rfl, rfl, by decide +kernel, rfl, by decide +kernel, by decide +kernel⟩
structure Txt (K : PySem.W.Frag) (mg : Str → Option Value) where
  a_check_there : Addr
  d_check_there : FuncData
  f_check_there : Fun K "check_there" "check_there" s_check_there a_check_there d_check_there
  g_check_there : mg "check_there" = some (.ref a_check_there)
  a_are_marks : Addr
  d_are_marks : FuncData
  f_are_marks : Fun K "are_marks" "are_marks" s_are_marks a_are_marks d_are_marks
  g_are_marks : mg "are_marks" = some (.ref a_are_marks)
  a_check_marks : Addr
  d_check_marks : FuncData
  f_check_marks : Fun K "check_marks" "check_marks" s_check_marks a_check_marks d_check_marks
  g_check_marks : mg "check_marks" = some (.ref a_check_marks)
  a_check_marks_there : Addr
  d_check_marks_there : FuncData
  f_check_marks_there : Fun K "check_marks_there" "check_marks_there" s_check_marks_there a_check_marks_there d_check_marks_there
  g_check_marks_there : mg "check_marks_there" = some (.ref a_check_marks_there)
  a_borders_in : Addr
  d_borders_in : FuncData
  f_borders_in : Fun K "borders_in" "borders_in" s_borders_in a_borders_in d_borders_in
  g_borders_in : mg "borders_in" = some (.ref a_borders_in)
  a_blocks_of : Addr
  d_blocks_of : FuncData
  f_blocks_of : Fun K "blocks_of" "blocks_of" s_blocks_of a_blocks_of d_blocks_of
  g_blocks_of : mg "blocks_of" = some (.ref a_blocks_of)
  a_cost_in : Addr
  d_cost_in : FuncData
  f_cost_in : Fun K "cost_in" "cost_in" s_cost_in a_cost_in d_cost_in
  g_cost_in : mg "cost_in" = some (.ref a_cost_in)
  a_borders : Addr
  d_borders : FuncData
  f_borders : Fun K "borders" "borders" s_borders a_borders d_borders
  g_borders : mg "borders" = some (.ref a_borders)
  a_blocks : Addr
  d_blocks : FuncData
  f_blocks : Fun K "blocks" "blocks" s_blocks a_blocks d_blocks
  g_blocks : mg "blocks" = some (.ref a_blocks)
  a_cost : Addr
  d_cost : FuncData
  f_cost : Fun K "cost" "cost" s_cost a_cost d_cost
  g_cost : mg "cost" = some (.ref a_cost)
  a__law_source : Addr
  d__law_source : FuncData
  f__law_source : Fun K "_law_source" "_law_source" s__law_source a__law_source d__law_source
  g__law_source : mg "_law_source" = some (.ref a__law_source)
  a__law_draw : Addr
  d__law_draw : FuncData
  f__law_draw : Fun K "_law_draw" "_law_draw" s__law_draw a__law_draw d__law_draw
  g__law_draw : mg "_law_draw" = some (.ref a__law_draw)
  a__law_some : Addr
  d__law_some : FuncData
  f__law_some : Fun K "_law_some" "_law_some" s__law_some a__law_some d__law_some
  g__law_some : mg "_law_some" = some (.ref a__law_some)
  a__law_done : Addr
  d__law_done : FuncData
  f__law_done : Fun K "_law_done" "_law_done" s__law_done a__law_done d__law_done
  g__law_done : mg "_law_done" = some (.ref a__law_done)
  a__law_borders : Addr
  d__law_borders : FuncData
  f__law_borders : Fun K "_law_borders" "_law_borders" s__law_borders a__law_borders d__law_borders
  g__law_borders : mg "_law_borders" = some (.ref a__law_borders)
  a__law_cost : Addr
  d__law_cost : FuncData
  f__law_cost : Fun K "_law_cost" "_law_cost" s__law_cost a__law_cost d__law_cost
  g__law_cost : mg "_law_cost" = some (.ref a__law_cost)
  a__law_blocks : Addr
  d__law_blocks : FuncData
  f__law_blocks : Fun K "_law_blocks" "_law_blocks" s__law_blocks a__law_blocks d__law_blocks
  g__law_blocks : mg "_law_blocks" = some (.ref a__law_blocks)
  a__law_fewest : Addr
  d__law_fewest : FuncData
  f__law_fewest : Fun K "_law_fewest" "_law_fewest" s__law_fewest a__law_fewest d__law_fewest
  g__law_fewest : mg "_law_fewest" = some (.ref a__law_fewest)
  a_law : Addr
  d_law : FuncData
  f_law : Fun K "law" "law" s_law a_law d_law
  g_law : mg "law" = some (.ref a_law)
  fI : Addr
  cI : Addr
  cdI : Addr
  dD : Addr
  dI : FuncData
  iT : InitT PR K mg s_init "WindowError.__init__" fI cI cdI dD dI
  c_WindowError : Addr
  e_WindowError : ErrC K fI dD c_WindowError
  g_WindowError : mg "WindowError" = some (.ref c_WindowError)
  c_InvalidRows : Addr
  e_InvalidRows : ErrC K fI dD c_InvalidRows
  g_InvalidRows : mg "InvalidRows" = some (.ref c_InvalidRows)
  c_InvalidMarks : Addr
  e_InvalidMarks : ErrC K fI dD c_InvalidMarks
  g_InvalidMarks : mg "InvalidMarks" = some (.ref c_InvalidMarks)
  z_len : mg "len" = none
  z_set : mg "set" = none
  z_list : mg "list" = none
  z_all : mg "all" = none
  z_zip : mg "zip" = none
  z_range : mg "range" = none
  z_sum : mg "sum" = none
  z_max : mg "max" = none
  z_int : mg "int" = none
  z_min : mg "min" = none
  z_dict : mg "dict" = none
  z_sorted : mg "sorted" = none
  z_tuple : mg "tuple" = none
  z_repr : mg "repr" = none
theorem ok_init {w : World} {K : PySem.W.Frag} {mg : Str → Option Value} {base : Heap} (T : Txt K mg) : FnOk PR w K mg base CX0 1 T.fI T.dI ["self", "value"] (spErr K T.fI T.dD) := ok_err T.iT (NdefX.nscope_by (by decide +kernel)) rfl rfl rfl (fun env => rfl)
theorem b_init {K : PySem.W.Frag} {mg : Str → Option Value} (T : Txt K mg) : Binds K T.dI ["self", "value"] [] := by
  obtain ⟨oc, od, kV, doc, pm, an, ct, osl, e, lk⟩ := T.iT.ex
  rw [e]
  exact .all fun us hl => match us, hl with | [_, _], _ => rfl
theorem b_check_there {K : PySem.W.Frag} {mg : Str → Option Value} (T : Txt K mg) : Binds K T.d_check_there ["there"] [] := T.f_check_there.binds (ps := ["there"]) fun _ _ _ _ _ _ us hl => match us, hl with | [_], _ => rfl
theorem b_are_marks {K : PySem.W.Frag} {mg : Str → Option Value} (T : Txt K mg) : Binds K T.d_are_marks ["marks"] [] := T.f_are_marks.binds (ps := ["marks"]) fun _ _ _ _ _ _ us hl => match us, hl with | [_], _ => rfl
theorem b_check_marks {K : PySem.W.Frag} {mg : Str → Option Value} (T : Txt K mg) : Binds K T.d_check_marks ["marks"] [] := T.f_check_marks.binds (ps := ["marks"]) fun _ _ _ _ _ _ us hl => match us, hl with | [_], _ => rfl
theorem b_check_marks_there {K : PySem.W.Frag} {mg : Str → Option Value} (T : Txt K mg) : Binds K T.d_check_marks_there ["there", "marks"] [] := T.f_check_marks_there.binds (ps := ["there", "marks"]) fun _ _ _ _ _ _ us hl => match us, hl with | [_, _], _ => rfl
theorem b_borders_in {K : PySem.W.Frag} {mg : Str → Option Value} (T : Txt K mg) : Binds K T.d_borders_in ["there", "marks"] [] := T.f_borders_in.binds (ps := ["there", "marks"]) fun _ _ _ _ _ _ us hl => match us, hl with | [_, _], _ => rfl
theorem b_blocks_of {K : PySem.W.Frag} {mg : Str → Option Value} (T : Txt K mg) : Binds K T.d_blocks_of ["places"] [] := T.f_blocks_of.binds (ps := ["places"]) fun _ _ _ _ _ _ us hl => match us, hl with | [_], _ => rfl
theorem b_cost_in {K : PySem.W.Frag} {mg : Str → Option Value} (T : Txt K mg) : Binds K T.d_cost_in ["there", "marks"] [] := T.f_cost_in.binds (ps := ["there", "marks"]) fun _ _ _ _ _ _ us hl => match us, hl with | [_, _], _ => rfl
theorem b_borders {K : PySem.W.Frag} {mg : Str → Option Value} (T : Txt K mg) : Binds K T.d_borders ["there", "marks"] [] := T.f_borders.binds (ps := ["there", "marks"]) fun _ _ _ _ _ _ us hl => match us, hl with | [_, _], _ => rfl
theorem b_blocks {K : PySem.W.Frag} {mg : Str → Option Value} (T : Txt K mg) : Binds K T.d_blocks ["there", "marks"] [] := T.f_blocks.binds (ps := ["there", "marks"]) fun _ _ _ _ _ _ us hl => match us, hl with | [_, _], _ => rfl
theorem b_cost {K : PySem.W.Frag} {mg : Str → Option Value} (T : Txt K mg) : Binds K T.d_cost ["there", "marks"] [] := T.f_cost.binds (ps := ["there", "marks"]) fun _ _ _ _ _ _ us hl => match us, hl with | [_, _], _ => rfl
theorem b__law_source {K : PySem.W.Frag} {mg : Str → Option Value} (T : Txt K mg) : Binds K T.d__law_source ["_law_script", "_law_index"] [] := T.f__law_source.binds (ps := ["_law_script", "_law_index"]) fun _ _ _ _ _ _ us hl => match us, hl with | [_, _], _ => rfl
theorem b__law_draw {K : PySem.W.Frag} {mg : Str → Option Value} (T : Txt K mg) : Binds K T.d__law_draw ["_law_source_here", "_law_bound"] [] := T.f__law_draw.binds (ps := ["_law_source_here", "_law_bound"]) fun _ _ _ _ _ _ us hl => match us, hl with | [_, _], _ => rfl
theorem b__law_some {K : PySem.W.Frag} {mg : Str → Option Value} (T : Txt K mg) : Binds K T.d__law_some ["_law_source_here", "_law_things", "_law_size"] [] := T.f__law_some.binds (ps := ["_law_source_here", "_law_things", "_law_size"]) fun _ _ _ _ _ _ us hl => match us, hl with | [_, _, _], _ => rfl
theorem b__law_done {K : PySem.W.Frag} {mg : Str → Option Value} (T : Txt K mg) : Binds K T.d__law_done ["_law_there", "_law_marks", "_law_anchor", "_law_clicks_here"] [] := T.f__law_done.binds (ps := ["_law_there", "_law_marks", "_law_anchor", "_law_clicks_here"]) fun _ _ _ _ _ _ us hl => match us, hl with | [_, _, _, _], _ => rfl
theorem b__law_borders {K : PySem.W.Frag} {mg : Str → Option Value} (T : Txt K mg) : Binds K T.d__law_borders ["_law_there", "_law_marks"] [] := T.f__law_borders.binds (ps := ["_law_there", "_law_marks"]) fun _ _ _ _ _ _ us hl => match us, hl with | [_, _], _ => rfl
theorem b__law_cost {K : PySem.W.Frag} {mg : Str → Option Value} (T : Txt K mg) : Binds K T.d__law_cost ["_law_there", "_law_marks"] [] := T.f__law_cost.binds (ps := ["_law_there", "_law_marks"]) fun _ _ _ _ _ _ us hl => match us, hl with | [_, _], _ => rfl
theorem b__law_blocks {K : PySem.W.Frag} {mg : Str → Option Value} (T : Txt K mg) : Binds K T.d__law_blocks ["_law_found"] [] := T.f__law_blocks.binds (ps := ["_law_found"]) fun _ _ _ _ _ _ us hl => match us, hl with | [_], _ => rfl
theorem b__law_fewest {K : PySem.W.Frag} {mg : Str → Option Value} (T : Txt K mg) : Binds K T.d__law_fewest ["_law_there", "_law_anchor"] [] := T.f__law_fewest.binds (ps := ["_law_there", "_law_anchor"]) fun _ _ _ _ _ _ us hl => match us, hl with | [_, _], _ => rfl
theorem b_law {K : PySem.W.Frag} {mg : Str → Option Value} (T : Txt K mg) : Binds K T.d_law ["_law_script"] [] := T.f_law.binds (ps := ["_law_script"]) fun _ _ _ _ _ _ us hl => match us, hl with | [_], _ => rfl
theorem kb_blocks_0_marks_there {K : PySem.W.Frag} {mg : Str → Option Value} (T : Txt K mg) : KBinds K T.d_blocks ["there", "marks"] ["marks", "there"] (kg 0 2 [1, 0]) (kg 0 2 [1, 0]) := kbinds 0 2 [1, 0] T.f_blocks (by decide) fun _ _ _ _ _ _ us ws h1 h2 => match us, h1, ws, h2 with | [], _, [_, _], _ => rfl
theorem kb_cost_0_marks_there {K : PySem.W.Frag} {mg : Str → Option Value} (T : Txt K mg) : KBinds K T.d_cost ["there", "marks"] ["marks", "there"] (kg 0 2 [1, 0]) (kg 0 2 [1, 0]) := kbinds 0 2 [1, 0] T.f_cost (by decide) fun _ _ _ _ _ _ us ws h1 h2 => match us, h1, ws, h2 with | [], _, [_, _], _ => rfl
theorem kb_borders_0_marks_there {K : PySem.W.Frag} {mg : Str → Option Value} (T : Txt K mg) : KBinds K T.d_borders ["there", "marks"] ["marks", "there"] (kg 0 2 [1, 0]) (kg 0 2 [1, 0]) := kbinds 0 2 [1, 0] T.f_borders (by decide) fun _ _ _ _ _ _ us ws h1 h2 => match us, h1, ws, h2 with | [], _, [_, _], _ => rfl
end K27
set_option Elab.async false
set_option pp.maxSteps 1200
set_option linter.all false
set_option maxRecDepth 100000
set_option maxHeartbeats 4000000
namespace K27
open PySem L2 My
theorem at0 {α : Type} {a : α} {l : List α} : atI (a :: l) 0 = some a := atI_nat (j := 0) rfl
theorem at1 {α : Type} {a b : α} {l : List α} : atI (a :: b :: l) 1 = some b := atI_nat (j := 1) rfl
theorem at2 {α : Type} {a b c : α} {l : List α} : atI (a :: b :: c :: l) 2 = some c := atI_nat (j := 2) rfl
theorem mapI_get {ts : List Int} {i : Nat} {x : V} (h : (ts.map V.int)[i]? = some x) : ∃ t, ts[i]? = some t ∧ x = V.int t := by
  rw [List.getElem?_map] at h
  cases e : ts[i]? with
  | none =>
    rw [e] at h
    cases h
  | some t =>
    rw [e] at h
    exact ⟨t, rfl, (Option.some.inj h).symm⟩
/-! ### clicks and what they do -/
abbrev Cl := Str × Int
def IsCl (K : PySem.W.Frag) (H : Hp) (v : V) (c : Cl) : Prop := ∃ q, v = .ref q ∧ SqT K H q [.str c.1, .int c.2]
def Cls (K : PySem.W.Frag) (H : Hp) (vs : List V) (cs : List Cl) : Prop := vs.length = cs.length ∧ ∀ (i : Nat) v c, vs[i]? = some v → cs[i]? = some c → IsCl K H v c
theorem Cls.ex {K : PySem.W.Frag} {H H' : Hp} {vs : List V} {cs : List Cl} (e : Ex H H') (h : Cls K H vs cs) : Cls K H' vs cs := ⟨h.1, fun i v c h1 h2 => by
  obtain ⟨q, e1, e2⟩ := h.2 i v c h1 h2
  exact ⟨q, e1, Evl.ex_t e e2⟩⟩
theorem Cls.get {K : PySem.W.Frag} {H : Hp} {vs : List V} {cs : List Cl} (h : Cls K H vs cs) {i : Nat} {v : V} (hi : vs[i]? = some v) : ∃ c q, cs[i]? = some c ∧ v = .ref q ∧ SqT K H q [.str c.1, .int c.2] := by
  have hlt : i < vs.length := (List.getElem?_eq_some_iff.mp hi).1
  have hc : cs[i]? = some (cs[i]'(by rw [← h.1]; exact hlt)) := List.getElem?_eq_getElem _
  obtain ⟨q, e1, e2⟩ := h.2 i v _ hi hc
  exact ⟨_, q, hc, e1, e2⟩
def ClOk (n : Nat) (cs : List Cl) : Prop := ∀ c ∈ cs, (c.1 = "click" ∨ c.1 = "range") ∧ 0 ≤ c.2 ∧ c.2 < n
def anV : Option Int → V
  | none => .non
  | some n => .int n
abbrev State := (Int → Bool) × Option Int
def rowAt (there : List Int) (p : Int) : Int := there.getD p.toNat 0
/-- the rows between two places, both within -/
def span (there : List Int) (a b : Nat) : List Int := (there.drop (min a b)).take (max a b + 1 - min a b)
def step (there : List Int) (st : State) (c : Cl) : State :=
  match (if c.1 = "range" then st.2 else none) with
  | some an => if an ∈ there then (fun r => if r ∈ span there (there.idxOf an) c.2.toNat then st.1 an else st.1 r, st.2) else (fun r => if r = rowAt there c.2 then !st.1 r else st.1 r, some (rowAt there c.2))
  | none => (fun r => if r = rowAt there c.2 then !st.1 r else st.1 r, some (rowAt there c.2))
def done (there marks : List Int) (an : Option Int) (cs : List Cl) : State := cs.foldl (step there) (fun r => decide (r ∈ marks), an)
def sp_check_there (K : PySem.W.Frag) : Sp := fun vs H Q _ => ∃ (a : Addr) (ns : List Int), vs = [.ref a] ∧ SqL K H a (ns.map V.int) ∧ ns.Nodup ∧ ns.length ≤ 1000 ∧ Q .non H
def sp_are_marks (K : PySem.W.Frag) : Sp := fun vs H Q _ => ∃ (a : Addr) (ms : List Int), vs = [.ref a] ∧ SqL K H a (ms.map V.int) ∧ ms.Pairwise (· < ·) ∧ ms.length ≤ 1000 ∧ Evl.RetV (.bl true) H Q
def sp_check_marks (K : PySem.W.Frag) : Sp := fun vs H Q _ => ∃ (a : Addr) (ms : List Int), vs = [.ref a] ∧ SqL K H a (ms.map V.int) ∧ ms.Pairwise (· < ·) ∧ ms.length ≤ 1000 ∧ Evl.RetV .non H Q
section
variable {w : World} {K : PySem.W.Frag} {mg : Str → Option Value} {base : Heap}
theorem nef {a b : V} (h : a = b) : (!decide (a = b)) = false := by
  rw [decide_eq_true h]
  rfl
theorem ok_check_there (T : Txt K mg) : FnOk PR w K mg base (L2.CX PR w) 3 T.a_check_there T.d_check_there ["there"] (sp_check_there K) := by
  refine T.f_check_there.okX sc_check_there (fun vs H Q E h => ?_) (fun cdv A outer s H vs Q E hr h => ?_)
  · obtain ⟨a, ns, rfl, _⟩ := h
    rfl
  · obtain ⟨a, ns, rfl, ha, nd, hl, k⟩ := h
    refine ⟨_, (pss_one (ps_if (pt_cmpR op_ne (RZ.pe_lenSetI (by rfl) T.z_len (by rfl) T.z_set (pv 0)) (pe_callB call_len_seq (by rfl) T.z_len PySem.boot_len (pa_cons (pv 0) pa_nil)) (nomark _)) (pss_one (ps_raise rfl (takes_of rfl rfl rfl rfl) (pmk_err (ok_init T) (b_init T) T.e_InvalidRows (hr.mono (by decide)) (by rfl) T.g_InvalidRows (pa_cons (pe_callTy call_listG (by rfl) T.z_list (by decide +kernel) (pa_cons (pv 0) pa_nil)) pa_nil)))) pss_nil)), ?_⟩
    refine ⟨_, rfl, a, ns, rfl, ha, nd, by omega, _, rfl, _, _, rfl, .inl ha, rfl, _, rfl, ifF (nef (by rw [List.length_map])) ?_⟩
    exact k
theorem ok_are_marks (T : Txt K mg) : FnOk PR w K mg base CX0 1 T.a_are_marks T.d_are_marks ["marks"] (sp_are_marks K) := by
  refine T.f_are_marks.ok sc_are_marks (fun vs H Q E h => ?_) (fun cdv A outer s H vs Q E hr h => ?_)
  · obtain ⟨a, ms, rfl, _⟩ := h
    rfl
  · obtain ⟨a, ms, rfl, ha, pw, hl, k⟩ := h
    refine ⟨_, (pss_one (ps_ret (pe_callB (cr_all rfl) (by rfl) T.z_all (by decide +kernel) (pa_cons (pe_lc (own := [("one", 1), ("other", 2)]) (g := (gTup K 2 (gCons (gName 1) (gCons (gName 2) gNil)))) (by rfl) sc_are_marks.nd (pi_zip (by rfl) T.z_zip (pa_cons (pv 0) (pa_cons (pe_slice sl_listG (pv 0) (po_some pe_int) po_none) pa_nil))) (blkOk_by (own := [("one", 1), ("other", 2)]) (N := ["marks", "one", "other"]) (sc := (defScope s_are_marks)) (by decide +kernel)) (fun _ _ _ _ _ => (pg_tup rfl (pgs_cons (pg_name (i := 1) sc_are_marks.nd rfl (by first | exact Or.inl rfl | exact Or.inr rfl)) (pgs_cons (pg_name (i := 2) sc_are_marks.nd rfl (by first | exact Or.inl rfl | exact Or.inr rfl)) pgs_nil)))) (fun _ _ _ _ _ => pts_nil) (fun _ _ _ _ _ => (pe_cmpR op_lt (pv 1) (pv 2) (nomark _)))) pa_nil)))), ?_⟩
    have ec : cutV (ms.map V.int) (some 1) none = (ms.drop 1).map V.int := by
      rw [List.map_drop]
      exact cut_from _ 1
    refine ⟨_, rfl, _, rfl, _, rfl, _, _, rfl, ha, fun p1 H1 n1 e1 h1 => ?_⟩
    rw [ec] at h1
    have ha1 := Evl.ex_l e1 ha
    refine ⟨a, p1, _, _, rfl, ha1, sqI h1, fun D hD => lc_it (walk_zip (K := K) (a := a) (b := p1) (xs := ms.map V.int) (ys := (ms.drop 1).map V.int) rfl) (fun i H' => Ex H1 H' ∧ H' D = some (.lst ((List.replicate i true).map V.bl))) ⟨Evl.Ex.new hD, upd_same⟩ (fun i H' _ z => ⟨Evl.ex_l z.1 ha1, sqI (z.1 _ _ h1)⟩) ?_ ?_⟩
    · rintro i v H2 H3 hi ⟨e2, d2⟩ ⟨q, x, y, rfl, nq, rfl, hx, hy⟩
      obtain ⟨t, ht, rfl⟩ := mapI_get hx
      obtain ⟨u, hu, rfl⟩ := mapI_get hy
      rw [List.getElem?_drop] at hu
      have e3 : Ex H2 (upd H2 q (.tup [.int t, .int u])) := Evl.Ex.new nq
      have hp : upd H2 q (.tup [.int t, .int u]) q = some (.tup [.int t, .int u]) := upd_same
      generalize upd H2 q (.tup [.int t, .int u]) = H4 at e3 hp ⊢
      have lt : t < u := by
        obtain ⟨i1, e1⟩ := List.getElem?_eq_some_iff.mp ht
        obtain ⟨i2, e2⟩ := List.getElem?_eq_some_iff.mp hu
        rw [← e1, ← e2]
        exact List.pairwise_iff_getElem.mp pw i (1 + i) i1 i2 (by omega)
      refine ⟨_, _, rfl, sqT hp, rfl, _, _, rfl, _, _, rfl, rfl, rfl, ?_⟩
      refine ⟨_, rfl, _, rfl, _, _, rfl, rfl, _, e3 _ _ d2, ?_, ?_⟩
      · rw [List.length_map, List.length_replicate]
        have : i < (ms.map V.int).length := Nat.lt_of_lt_of_le hi (Nat.min_le_left _ _)
        rw [List.length_map] at this
        exact Nat.lt_of_lt_of_le (show i < 1000 by omega) (by decide)
      · refine ⟨Evl.Ex.mut (e2.trans e3) hD, ?_⟩
        rw [upd_same, List.replicate_succ', List.map_append]
        show some (HO.lst (_ ++ [V.bl (decide (t < u))])) = _
        rw [decide_eq_true lt]
        rfl
    · rintro H2 ⟨e2, d2⟩
      refine ⟨D, _, rfl, sqI d2, ?_⟩
      rw [List.all_replicate]
      have := k _ (e1.trans e2)
      split
      · exact this
      · exact this
theorem ok_check_marks (T : Txt K mg) : FnOk PR w K mg base (L2.CX PR w) 3 T.a_check_marks T.d_check_marks ["marks"] (sp_check_marks K) := by
  refine T.f_check_marks.okX sc_check_marks (fun vs H Q E h => ?_) (fun cdv A outer s H vs Q E hr h => ?_)
  · obtain ⟨a, ms, rfl, _⟩ := h
    rfl
  · obtain ⟨a, ms, rfl, ha, pw, hl, k⟩ := h
    refine ⟨_, (pss_one (ps_if (pt_not (pt_val (pe_call (ok_are_marks T) (hr.mono (by decide)) (by rfl) T.g_are_marks T.f_are_marks.kp (b_are_marks T) .nil pass0 (pa_cons (pv 0) pa_nil)))) (pss_one (ps_raise rfl (takes_of rfl rfl rfl rfl) (pmk_err (ok_init T) (b_init T) T.e_InvalidMarks (hr.mono (by decide)) (by rfl) T.g_InvalidMarks (pa_cons (pe_callTy call_listG (by rfl) T.z_list (by decide +kernel) (pa_cons (pv 0) pa_nil)) pa_nil)))) pss_nil)), ?_⟩
    refine ⟨_, rfl, a, ms, rfl, ha, pw, hl, fun H1 e1 => ?_⟩
    exact ⟨_, rfl, iteF (k _ e1)⟩
end
end K27
set_option Elab.async false
set_option pp.maxSteps 1200
set_option linter.all false
set_option maxRecDepth 100000
set_option maxHeartbeats 4000000
namespace K27
open PySem L2 My
theorem span_take {there : List Int} {a b i : Nat} {x : Int} (h : (span there a b)[i]? = some x) : x ∈ there := by
  have := List.mem_of_getElem? h
  exact List.mem_of_mem_drop (List.mem_of_mem_take this)
section
variable {w : World} {K : PySem.W.Frag} {mg : Str → Option Value} {base : Heap}
/-- the anchor of a range -/
def rng (there : List Int) (word : Str) (an : Option Int) : Option Int := match an with
  | some n => if word = "range" ∧ n ∈ there then some n else none
  | none => none
theorem rng_some {there : List Int} {word : Str} {an : Option Int} {n : Int} (h : rng there word an = some n) : word = "range" ∧ an = some n ∧ n ∈ there := by
  unfold rng at h
  cases an with
  | none => cases h
  | some m =>
    by_cases c : word = "range" ∧ m ∈ there
    · simp only [if_pos c] at h
      cases h
      exact ⟨c.1, rfl, c.2⟩
    · simp only [if_neg c] at h
      cases h
theorem step_rng {there : List Int} {f : Int → Bool} {an : Option Int} {word : Str} {pos n : Int} (h : rng there word an = some n) :
    step there (f, an) (word, pos) = (fun r => if r ∈ span there (there.idxOf n) pos.toNat then f n else f r, an) := by
  obtain ⟨rfl, rfl, hm⟩ := rng_some h
  show (if n ∈ there then _ else _) = _
  rw [if_pos hm]
theorem step_cl {there : List Int} {f : Int → Bool} {an : Option Int} {word : Str} {pos : Int} (h : rng there word an = none) :
    step there (f, an) (word, pos) = (fun r => if r = rowAt there pos then !f r else f r, some (rowAt there pos)) := by
  unfold rng at h
  unfold step
  cases an with
  | none =>
    have : (if word = "range" then (none : Option Int) else none) = none := by split <;> rfl
    simp only [this]
  | some m =>
    by_cases c : word = "range"
    · by_cases c2 : m ∈ there
      · simp only [if_pos (And.intro c c2)] at h
        cases h
      · simp only [if_pos c, if_neg c2]
    · simp only [if_neg c]
theorem rng_isSome (there : List Int) (word : Str) (an : Option Int) : (rng there word an).isSome = (decide (word = "range") && an.any fun n => decide (n ∈ there)) := by
  unfold rng
  cases an with
  | none => simp
  | some m =>
    by_cases c : word = "range" ∧ m ∈ there
    · simp [if_pos c, c.1, c.2]
    · rw [Bool.eq_iff_iff]
      simp [if_neg c]
      exact fun h1 h2 => c ⟨h1, h2⟩
/-- what stands while clicks are done -/
def MInv (K : PySem.W.Frag) (a m b pd fd : Addr) (ns ms : List Int) (st : State) (H1 : Hp) (σ : L2.St) (H' : Hp) : Prop :=
  ∃ w6 w7 w8 w9 w10 w11 w12 ks, σ = [some (.ref a), some (.ref m), some (anV st.2), some (.ref b), some (.ref pd), some (.ref fd), w6, w7, w8, w9, w10, w11, w12] ∧ Ex H1 H' ∧ H' fd = some (.dK (kvsOf ks tt)) ∧ FdOk st.1 (ms ++ ns) ks
theorem at_row {ns : List Int} {p : Int} (h0 : 0 ≤ p) (h1 : p < ns.length) : atI (ns.map V.int) p = some (.int (rowAt ns p)) := by
  refine at_of (j := p.toNat) (by omega) ?_
  rw [List.getElem?_map, List.getElem?_eq_getElem (by omega)]
  show some (V.int _) = some (V.int (ns.getD p.toNat 0))
  rw [List.getD_eq_getElem?_getD, List.getElem?_eq_getElem (by omega)]
  rfl
theorem row_mem {ns : List Int} {p : Int} (h0 : 0 ≤ p) (h1 : p < ns.length) : rowAt ns p ∈ ns := by
  show ns.getD p.toNat 0 ∈ ns
  rw [List.getD_eq_getElem?_getD, List.getElem?_eq_getElem (show p.toNat < ns.length by omega)]
  exact List.getElem_mem _
theorem big {f : Int → Bool} {ms ns ks : List Int} (h : FdOk f (ms ++ ns) ks) (h1 : ms.length ≤ 1000) (h2 : ns.length ≤ 1000) (g : Int → V) : (kvsOf ks g).length < sizeLine := by
  rw [kvs_len]
  have := h.len
  rw [List.length_append] at this
  exact Nat.lt_of_le_of_lt (show ks.length ≤ 2000 by omega) (by decide)
end
end K27
set_option Elab.async false
set_option pp.maxSteps 1200
set_option linter.all false
set_option maxRecDepth 100000
set_option maxHeartbeats 4000000
namespace K27
open PySem L2 My
theorem step_an (there : List Int) (f g : Int → Bool) (an : Option Int) (c : Cl) : (step there (f, an) c).2 = (step there (g, an) c).2 := by
  obtain ⟨word, pos⟩ := c
  cases h : rng there word an with
  | none => rw [step_cl h, step_cl h]
  | some n => rw [step_rng h, step_rng h]
theorem fold_an (there : List Int) : ∀ (cs : List Cl) (f g : Int → Bool) (an : Option Int), (cs.foldl (step there) (f, an)).2 = (cs.foldl (step there) (g, an)).2
  | [], _, _, _ => rfl
  | c :: cs, f, g, an => by
    show (cs.foldl (step there) (step there (f, an) c)).2 = (cs.foldl (step there) (step there (g, an) c)).2
    have e := step_an there f g an c
    generalize step there (f, an) c = s1 at e ⊢
    generalize step there (g, an) c = s2 at e ⊢
    obtain ⟨a1, b1⟩ := s1
    obtain ⟨a2, b2⟩ := s2
    have e : b1 = b2 := e
    subst e
    exact fold_an there cs a1 a2 b1
theorem done_an (there ms ms' : List Int) (an : Option Int) (cs : List Cl) : (done there ms an cs).2 = (done there ms' an cs).2 := fold_an there cs _ _ an
def posns (ns rows : List Int) : List Int := ((List.range ns.length).filter fun i => decide (ns.getD i 0 ∈ rows)).map fun i => ((i : Nat) : Int)
theorem inV_int (x : Int) (rows : List Int) : inV (V.int x) (rows.map V.int) = decide (x ∈ rows) := by
  unfold inV
  rw [List.any_map, Bool.eq_iff_iff, List.any_eq_true]
  constructor
  · rintro ⟨n, hn, e⟩
    have : n = x := by
      have e : (n == x) = true := e
      simpa using e
    subst this
    exact decide_eq_true hn
  · intro h
    exact ⟨x, of_decide_eq_true h, by show (x == x) = true; simp⟩
theorem inV_non (rows : List Int) : inV V.non (rows.map V.int) = false := by
  unfold inV
  rw [List.any_map, List.any_eq_false]
  intro n hn
  show ¬ (false = true)
  decide
theorem flatI (rows : List Int) : (rows.map V.int).all flatV = true := by
  rw [List.all_map, List.all_eq_true]
  intro _ _
  rfl
theorem pw_nodup {ms : List Int} (h : ms.Pairwise (· < ·)) : ms.Nodup := h.imp fun z => by omega
theorem Ex_back {H H' : Hp} (e : Ex H H') {x : Addr} (hx : H' x = none) : H x = none := by
  cases q : H x with
  | none => rfl
  | some o =>
    rw [e _ _ q] at hx
    cases hx
section
variable {w : World} {K : PySem.W.Frag} {mg : Str → Option Value} {base : Heap}
end
end K27
set_option Elab.async false
set_option pp.maxSteps 1200
set_option linter.all false
set_option maxRecDepth 100000
set_option maxHeartbeats 4000000
namespace K27
open PySem L2 My
/-! ### the source -/
/-- a source of draws stands at j, of which at most B were mixed -/
def Jug (H : Hp) (j : Addr) (B : Int) : Prop := ∃ x y z : Int, H j = some (.lst [.int x, .int y, .int z]) ∧ 0 ≤ y ∧ y < 2 ^ 200 ∧ 0 ≤ z ∧ z ≤ B
theorem Jug.ex {H H' : Hp} {j : Addr} {B : Int} (e : Ex H H') : Jug H j B → Jug H' j B
  | ⟨x, y, z, h, r⟩ => ⟨x, y, z, e _ _ h, r⟩
theorem Jug.mono {H : Hp} {j : Addr} {B B' : Int} (h : B ≤ B') : Jug H j B → Jug H j B'
  | ⟨x, y, z, h1, h2, h3, h4, h5⟩ => ⟨x, y, z, h1, h2, h3, h4, by omega⟩
theorem Jug.some {H : Hp} {j : Addr} {B : Int} : Jug H j B → ∃ o, H j = some o
  | ⟨_, _, _, h, _⟩ => ⟨_, h⟩
theorem Jug.ne {H : Hp} {j p : Addr} {B : Int} (h : Jug H j B) (n : H p = none) : p ≠ j := by
  obtain ⟨o, ho⟩ := h.some
  exact (ne_of_none ho n).symm
theorem Jug.upd {H : Hp} {j p : Addr} {B : Int} {o : HO} (n : p ≠ j) : Jug H j B → Jug (upd H p o) j B
  | ⟨x, y, z, h, r⟩ => ⟨x, y, z, by rw [upd_ne n.symm]; exact h, r⟩
theorem _root_.My.Exj.back {j p : Addr} {H H' : Hp} (e : Exj j H H') (n : p ≠ j) (h : H' p = none) : H p = none := by
  cases q : H p with
  | none => rfl
  | some o =>
    rw [e p o n q] at h
    cases h
theorem mix_lt {m z : Int} (h0 : 0 ≤ m) (h1 : m < 2 ^ 200) (z0 : 0 ≤ z) (z1 : z ≤ 2 ^ 60) : (m + 32452843 * (z + 1)).natAbs < 2 ^ 210 := by omega
def sp__law_draw : Sp := fun vs H Q _ => ∃ (j : Addr) (many B : Int), vs = [.ref j, .int many] ∧ Jug H j B ∧ B ≤ 2 ^ 60 ∧ 0 < many ∧ many < 2 ^ 200 ∧
  ∀ (n : Int) (H' : Hp), 0 ≤ n → n < many → Exj j H H' → Jug H' j (B + 1) → Q (.int n) H'
def sp__law_source (K : PySem.W.Frag) : Sp := fun vs H Q _ => ∃ (a : Addr) (ns : List Int) (k : Int), vs = [.ref a, .int k] ∧ SqL K H a (ns.map V.int) ∧ 0 ≤ k ∧ k ≤ 100 ∧ ∀ (p : Addr) (H' : Hp), H p = none → Ex H H' → Jug H' p 0 → Q (.ref p) H'
section
variable {P : Program} {w : World} {K : PySem.W.Frag} {mg : Str → Option Value} {base : Heap}
theorem ok__law_draw (T : Txt K mg) : FnOk P w K mg base CX0 1 T.a__law_draw T.d__law_draw ["_law_source_here", "_law_bound"] sp__law_draw := by
  refine T.f__law_draw.ok sc__law_draw (fun vs H Q E h => ?_) (fun cdv A outer s H vs Q E hr h => ?_)
  · obtain ⟨j, many, B, rfl, _⟩ := h
    rfl
  · obtain ⟨j, many, B, rfl, ⟨x, y, z, hj, y0, y1, z0, z1⟩, hB, m0, m1, k⟩ := h
    refine ⟨_, (pss_cons (ps_if (pt_cmpR op_gt (pe_ix ix_list (pv 0) pe_int (fun _ _ => rfl)) pe_int (nomark _)) (pss_cons (ps_set (i := 2) sc__law_draw.nd rfl (by first | exact Or.inl rfl | exact Or.inr rfl) (pe_op op_mod (pe_callTy call_int1 (by rfl) T.z_int (by decide +kernel) (pa_cons (pe_ix ix_list (pv 0) pe_int (fun _ _ => rfl)) pa_nil)) (pv 1))) (pss_cons (ps_asg (pe_op op_fdivW (pe_ix ix_list (pv 0) pe_int (fun _ _ => rfl)) (pv 1)) (pg_sub (pv 0) pe_int set_list)) (pss_one (ps_ret (pv 2))))) pss_nil) (pss_cons (ps_asg (pe_op op_add (pe_ix ix_list (pv 0) pe_int (fun _ _ => rfl)) pe_int) (pg_sub (pv 0) pe_int set_list)) (pss_cons (ps_set (i := 3) sc__law_draw.nd rfl (by first | exact Or.inl rfl | exact Or.inr rfl) (pe_op op_mod (pe_callTy call_int1 (by rfl) T.z_int (by decide +kernel) (pa_cons (pe_op op_powW (pe_op op_add (pe_ix ix_list (pv 0) pe_int (fun _ _ => rfl)) (pe_op op_mulW pe_int (pe_ix ix_list (pv 0) pe_int (fun _ _ => rfl)))) pe_int) pa_nil)) (pe_op op_add (pe_op op_powW pe_int pe_int) pe_int))) (pss_cons (ps_set (i := 3) sc__law_draw.nd rfl (by first | exact Or.inl rfl | exact Or.inr rfl) (pe_op op_mod (pe_callTy call_int1 (by rfl) T.z_int (by decide +kernel) (pa_cons (pe_op op_powW (pe_op op_add (pv 3) (pe_op op_mulW pe_int (pe_ix ix_list (pv 0) pe_int (fun _ _ => rfl)))) pe_int) pa_nil)) (pe_op op_add (pe_op op_powW pe_int pe_int) pe_int))) (pss_one (ps_ret (pe_op op_mod (pe_op op_fdivW (pe_callTy call_int1 (by rfl) T.z_int (by decide +kernel) (pa_cons (pv 3) pa_nil)) pe_int) (pv 1)))))))), ?_⟩
    have sq : ∀ {H' : Hp} {l : List V}, H' j = some (.lst l) → SqL K H' j l := fun h => sqI h
    have m2 : many.natAbs < 2 ^ 200 := by omega
    refine ⟨_, rfl, _, _, _, _, rfl, rfl, sq hj, at0, _, _, rfl, rfl, _, rfl, ?_⟩
    refine ite2 (fun c => ?_) (fun c => ?_)
    · refine ⟨_, rfl, _, _, _, _, rfl, rfl, sq hj, at0, .inl ⟨_, rfl, ?_⟩⟩
      refine ⟨_, rfl, _, _, rfl, rfl, m0, ?_⟩
      refine ⟨_, rfl, _, _, _, _, rfl, rfl, sq hj, at0, _, rfl, _, _, rfl, rfl, wide_div m0 m2 (by decide) (by decide), _, rfl, _, _, _, _, rfl, rfl, hj, (show _ = some 0 from rfl), ?_⟩
      refine ⟨_, rfl, ?_⟩
      exact k _ _ (Int.emod_nonneg _ (by omega)) (Int.emod_lt_of_pos _ m0) (Exj.refl _ _).upd ⟨_, y, z, upd_same, y0, y1, z0, by omega⟩
    · refine ⟨_, rfl, _, _, _, _, rfl, rfl, sq hj, at2, _, _, rfl, rfl, _, rfl, _, _, _, _, rfl, rfl, hj, (show _ = some 2 from rfl), ?_⟩
      have hj1 : L2.upd H j (.lst [.int x, .int y, .int (z + 1)]) j = some (.lst [.int x, .int y, .int (z + 1)]) := upd_same
      have ez : (z + 1).natAbs < 2 ^ 70 := by omega
      have b1 : (y + 15485863 * (z + 1)).natAbs < 2 ^ 210 := by omega
      refine ⟨_, rfl, _, _, _, _, rfl, rfl, sq hj1, at1, _, rfl, _, _, _, _, rfl, rfl, sq hj1, at2, _, _, rfl, rfl, wide_mul (a := 30) (b := 70) (by decide) ez (by decide) (by decide) (by decide), _, _, rfl, rfl, _, _, rfl, rfl, powW_of (j := 3) b1 (by decide) (by decide), .inl ⟨_, rfl, ?_⟩⟩
      refine ⟨_, _, rfl, rfl, (show CPowW 10 35 by constructor <;> decide +kernel), _, _, rfl, rfl, _, _, rfl, rfl, (show (0 : Int) < 10 ^ (35 : Int).toNat + 69 by decide +kernel), ?_⟩
      have q0 := Int.emod_nonneg ((y + 15485863 * (z + 1)) ^ (3 : Int).toNat) (show ((10 : Int) ^ (35 : Int).toNat + 69) ≠ 0 by decide +kernel)
      have q1 := Int.emod_lt_of_pos ((y + 15485863 * (z + 1)) ^ (3 : Int).toNat) (show 0 < ((10 : Int) ^ (35 : Int).toNat + 69) by decide +kernel)
      have q2 : ((10 : Int) ^ (35 : Int).toNat + 69) < 2 ^ 200 := by decide +kernel
      have b2 := mix_lt (z := z) q0 (Int.lt_trans q1 q2) z0 (Int.le_trans z1 hB)
      refine ⟨_, rfl, _, rfl, _, _, _, _, rfl, rfl, sq hj1, at2, _, _, rfl, rfl, wide_mul (a := 30) (b := 70) (by decide) ez (by decide) (by decide) (by decide), _, _, rfl, rfl, _, _, rfl, rfl, powW_of (j := 3) b2 (by decide) (by decide), .inl ⟨_, rfl, ?_⟩⟩
      refine ⟨_, _, rfl, rfl, (show CPowW 10 32 by constructor <;> decide +kernel), _, _, rfl, rfl, _, _, rfl, rfl, (show (0 : Int) < 10 ^ (32 : Int).toNat + 49 by decide +kernel), ?_⟩
      refine ⟨_, rfl, .inl ⟨_, rfl, _, _, rfl, rfl, wide_div (b := 40) (by decide) (by decide) (by decide) (by decide), _, rfl, _, _, rfl, rfl, m0, ?_⟩⟩
      exact k _ _ (Int.emod_nonneg _ (by omega)) (Int.emod_lt_of_pos _ m0) (Exj.refl _ _).upd ⟨x, y, z + 1, upd_same, y0, y1, by omega, by omega⟩
theorem ok__law_source (T : Txt K mg) : FnOk P w K mg base CX0 1 T.a__law_source T.d__law_source ["_law_script", "_law_index"] (sp__law_source K) := by
  refine T.f__law_source.ok sc__law_source (fun vs H Q E h => ?_) (fun cdv A outer s H vs Q E hr h => ?_)
  · obtain ⟨a, ns, k, rfl, _⟩ := h
    rfl
  · obtain ⟨a, ns, n, rfl, hs, n0, n1, k⟩ := h
    refine ⟨_, (pss_cons (ps_set (i := 2) sc__law_source.nd rfl (by first | exact Or.inl rfl | exact Or.inr rfl) pe_int) (pss_cons (ps_cut (ps_if (pt_cmpR op_lt (pv 1) (pe_callB call_len_seq (by rfl) T.z_len PySem.boot_len (pa_cons (pv 0) pa_nil)) (nomark _)) (pss_one (ps_set (i := 2) sc__law_source.nd rfl (by first | exact Or.inl rfl | exact Or.inr rfl) (pe_ix ix_list (pv 0) (pv 1) (fun _ _ => rfl)))) pss_nil)) (pss_one (ps_ret (pe_lstG (pa_cons (pe_callB (call_max2 rfl) (by rfl) T.z_max (by decide +kernel) (pa_cons pe_int (pa_cons (pe_op op_sub (pv 2) (pe_op op_powW pe_int pe_int)) pa_nil))) (pa_cons (pe_op op_add (pe_op op_mod (pe_callTy call_int1 (by rfl) T.z_int (by decide +kernel) (pa_cons (pv 2) pa_nil)) (pe_op op_add (pe_op op_powW pe_int pe_int) pe_int)) (pe_op op_mulW pe_int (pv 1))) (pa_cons pe_int pa_nil)))))))), ?_⟩
    refine ⟨fun σ H' => H' = H ∧ ∃ c : Int, σ = [Option.some (.ref a), Option.some (.int n), Option.some (.int c)], ?_, ?_⟩
    · refine ⟨_, rfl, _, rfl, _, _, rfl, .inl hs, _, _, rfl, rfl, _, rfl, ?_⟩
      refine ifB (fun c => ?_) (fun c => ⟨rfl, _, rfl⟩)
      have c' : n < ((ns.map V.int).length : Int) := of_decide_eq_true c
      rw [List.length_map] at c'
      have hx : ns[n.toNat]? = Option.some (ns[n.toNat]'(by omega)) := List.getElem?_eq_getElem (by omega)
      exact ⟨_, rfl, _, rfl, _, _, _, _, rfl, rfl, hs, at_of (j := n.toNat) (by omega) (by rw [List.getElem?_map, hx]; rfl), rfl, _, rfl⟩
    · rintro σ H' ⟨rfl, c, rfl⟩
      have q0 := Int.emod_nonneg c (show ((10 : Int) ^ (37 : Int).toNat + 43) ≠ 0 by decide +kernel)
      have q1 := Int.emod_lt_of_pos c (show 0 < ((10 : Int) ^ (37 : Int).toNat + 43) by decide +kernel)
      have q2 : ((10 : Int) ^ (37 : Int).toNat + 43) < 2 ^ 140 := by decide +kernel
      refine ⟨_, rfl, _, _, rfl, rfl, (show CPowW 10 18 by constructor <;> decide +kernel), _, _, rfl, rfl, _, _, rfl, ?_⟩
      refine ⟨_, rfl, .inl ⟨_, rfl, _, _, rfl, rfl, (show CPowW 10 37 by constructor <;> decide +kernel), _, _, rfl, rfl, _, _, rfl, rfl, (show (0 : Int) < 10 ^ (37 : Int).toNat + 43 by decide +kernel), _, rfl, _, _, rfl, rfl, wide_mul (a := 30) (b := 10) (by decide) (by omega) (by decide) (by decide) (by decide), _, _, rfl, rfl, (by show 3 ≤ sizeLine; decide), fun p1 H1 n1 e1 h1 => ?_⟩⟩
      refine k p1 H1 n1 e1 ⟨_, _, _, h1, ?_, ?_, Int.le_refl _, Int.le_refl _⟩
      · show 0 ≤ c % ((10 : Int) ^ (37 : Int).toNat + 43) + 1299709 * n
        omega
      · show c % ((10 : Int) ^ (37 : Int).toNat + 43) + 1299709 * n < 2 ^ 200
        have := Int.lt_trans q1 q2
        generalize c % ((10 : Int) ^ (37 : Int).toNat + 43) = d at q0 this ⊢
        omega
end
end K27
set_option Elab.async false
set_option pp.maxSteps 1200
set_option linter.all false
set_option maxRecDepth 100000
set_option maxHeartbeats 4000000
namespace K27
open PySem L2 My
/-- clicks that stand in the heap -/
def ClsH (H : Hp) (vs : List V) (cs : List Cl) : Prop := vs.length = cs.length ∧ ∀ (i : Nat) v c, vs[i]? = some v → cs[i]? = some c → ∃ q, v = .ref q ∧ H q = some (.tup [.str c.1, .int c.2])
theorem ClsH.cls {K : PySem.W.Frag} {H : Hp} {vs : List V} {cs : List Cl} (h : ClsH H vs cs) : Cls K H vs cs := ⟨h.1, fun i v c h1 h2 => let ⟨q, e1, e2⟩ := h.2 i v c h1 h2; ⟨q, e1, sqT e2⟩⟩
theorem ClsH.ex {H H' : Hp} {vs : List V} {cs : List Cl} (e : Ex H H') (h : ClsH H vs cs) : ClsH H' vs cs := ⟨h.1, fun i v c h1 h2 => let ⟨q, e1, e2⟩ := h.2 i v c h1 h2; ⟨q, e1, e _ _ e2⟩⟩
theorem ClsH.exj {H H' : Hp} {j : Addr} {B : Int} {vs : List V} {cs : List Cl} (e : Exj j H H') (hj : Jug H j B) (h : ClsH H vs cs) : ClsH H' vs cs := ⟨h.1, fun i v c h1 h2 => by
  obtain ⟨q, e1, e2⟩ := h.2 i v c h1 h2
  obtain ⟨x, y, z, hj, _⟩ := hj
  exact ⟨q, e1, e _ _ (fun z => by rw [z, hj] at e2; cases e2) e2⟩⟩
theorem ClsH.snoc {H : Hp} {vs : List V} {cs : List Cl} (h : ClsH H vs cs) {q : Addr} {c : Cl} (hq : H q = some (.tup [.str c.1, .int c.2])) : ClsH H (vs ++ [.ref q]) (cs ++ [c]) := by
  refine ⟨by simp [h.1], fun i v d h1 h2 => ?_⟩
  by_cases z : i < vs.length
  · rw [List.getElem?_append_left z] at h1
    rw [List.getElem?_append_left (by rw [← h.1]; exact z)] at h2
    exact h.2 i v d h1 h2
  · rw [List.getElem?_append_right (by omega)] at h1
    rw [List.getElem?_append_right (by rw [← h.1]; omega), ← h.1] at h2
    cases q : i - vs.length with
    | zero =>
      rw [q] at h1 h2
      cases h1
      cases h2
      exact ⟨_, rfl, hq⟩
    | succ n =>
      rw [q] at h1
      cases h1
theorem ClsH.take {H : Hp} {vs : List V} {cs : List Cl} (h : ClsH H vs cs) (n : Nat) : ClsH H (vs.take n) (cs.take n) := by
  refine ⟨by simp [h.1], fun i v d h1 h2 => ?_⟩
  rw [List.getElem?_take] at h1 h2
  split at h1
  · rename_i z
    rw [if_pos z] at h2
    exact h.2 i v d h1 h2
  · cases h1
theorem ClsH.drop {H : Hp} {vs : List V} {cs : List Cl} (h : ClsH H vs cs) (n : Nat) : ClsH H (vs.drop n) (cs.drop n) := by
  refine ⟨by simp [h.1], fun i v d h1 h2 => ?_⟩
  rw [List.getElem?_drop] at h1 h2
  exact h.2 _ v d h1 h2
def sp__law_some (K : PySem.W.Frag) : Sp := fun vs H Q _ => ∃ (j t : Addr) (size B : Int) (ns : List Int), vs = [.ref j, .ref t, .int size] ∧ Jug H j B ∧ B ≤ 2 ^ 50 ∧ SqL K H t (ns.map V.int) ∧ ns.length ≤ 100 ∧ 0 ≤ size ∧ size ≤ 1000 ∧
  ∀ (p : Addr) (H' : Hp) (ts ls : List Int), H p = none → Exj j H H' → p ≠ j → Jug H' j (B + 100) → H' p = some (.lst (ts.map V.int)) → (ts ++ ls).Perm ns → (ts.length : Int) = min size ns.length → Q (.ref p) H'
section
variable {P : Program} {w : World} {K : PySem.W.Frag} {mg : Str → Option Value} {base : Heap}
theorem erase_perm {α : Type} : ∀ {ls : List α} {k : Nat} {y : α}, ls[k]? = some y → (y :: ls.eraseIdx k).Perm ls
  | a :: ls, 0, y, h => by
    cases h
    exact List.Perm.refl _
  | a :: ls, k + 1, y, h => by
    have ih := erase_perm (ls := ls) (k := k) (y := y) h
    show (y :: a :: ls.eraseIdx k).Perm (a :: ls)
    exact (List.Perm.swap a y _).trans (ih.cons a)
theorem map_erase {α β : Type} (f : α → β) : ∀ (l : List α) (k : Nat), (l.map f).eraseIdx k = (l.eraseIdx k).map f
  | [], _ => rfl
  | _ :: _, 0 => rfl
  | a :: l, k + 1 => by
    show f a :: (l.map f).eraseIdx k = f a :: (l.eraseIdx k).map f
    rw [map_erase f l k]
theorem ok__law_some (T : Txt K mg) : FnOk P w K mg base CX0 2 T.a__law_some T.d__law_some ["_law_source_here", "_law_things", "_law_size"] (sp__law_some K) := by
  refine T.f__law_some.ok sc__law_some (fun vs H Q E h => ?_) (fun cdv A outer s H vs Q E hr h => ?_)
  · obtain ⟨j, t, size, B, ns, rfl, _⟩ := h
    rfl
  · obtain ⟨j, t, size, B, ns, rfl, hj, hB, ht, hl, s0, s1, k⟩ := h
    refine ⟨_, (pss_cons (ps_set (i := 3) sc__law_some.nd rfl (by first | exact Or.inl rfl | exact Or.inr rfl) (pe_callTy call_listG (by rfl) T.z_list (by decide +kernel) (pa_cons (pv 1) pa_nil))) (pss_one (ps_ret (pe_lc (own := [("_law_step", 4)]) (g := gName 4) (by rfl) sc__law_some.nd (pi_range1 (by rfl) T.z_range (pa_cons (pe_callB (call_min2 rfl) (by rfl) T.z_min (by decide +kernel) (pa_cons (pv 2) (pa_cons (pe_callB call_len_seq (by rfl) T.z_len PySem.boot_len (pa_cons (pv 3) pa_nil)) pa_nil))) pa_nil)) (blkOk_by (own := [("_law_step", 4)]) (N := ["_law_source_here", "_law_things", "_law_size", "_law_left", "_law_step"]) (sc := (defScope s__law_some)) (by decide +kernel)) (fun _ _ _ _ _ => (pg_name (i := 4) sc__law_some.nd rfl (by first | exact Or.inl rfl | exact Or.inr rfl))) (fun _ _ _ _ _ => pts_nil) (fun _ _ _ _ _ => (peBMK (K := K) (by rfl) (pe_bm PySem.F.plainAttrs_list PySem.F.slot_list_pop PySem.F.type_list_pop mt_popAt (pv 3) (pa_cons (pe_call (ok__law_draw T) (hr.mono (by decide)) (by rfl) T.g__law_draw T.f__law_draw.kp (b__law_draw T) .nil pass0 (pa_cons (pv 0) (pa_cons (pe_callB (crK (r := rLenSq) (K := K) (by rfl) call_len_seq) (by rfl) T.z_len PySem.boot_len (pa_cons (pv 3) pa_nil)) pa_nil))) pa_nil)))))))), ?_⟩
    refine ⟨_, rfl, _, _, rfl, .inl ht, fun L H1 n1 e1 h1 => ?_⟩
    have nL : L ≠ j := hj.ne n1
    refine ⟨_, rfl, _, rfl, _, _, rfl, .inl (sqI h1), _, _, rfl, ?_⟩
    have em : (if ((ns.map V.int).length : Int) < size then ((ns.map V.int).length : Int) else size) = ((min size.toNat ns.length : Nat) : Int) := by
      rw [List.length_map]
      split <;> omega
    rw [em]
    refine ⟨_, rfl, (by omega), (by omega), fun D hD => ?_⟩
    have nD : D ≠ j := (hj.ex e1).ne hD
    have nDL : D ≠ L := (ne_of_none h1 hD).symm
    refine lc_range (lo := 0) (n := (((min size.toNat ns.length : Nat) : Int)).toNat) (fun i H2 => ∃ ts ls : List Int, Exj j H H2 ∧ Jug H2 j (B + i) ∧ H2 L = some (.lst (ls.map V.int)) ∧ H2 D = some (.lst (ts.map V.int)) ∧ ts.length = i ∧ (ts ++ ls).Perm ns) ?_ ?_ ?_
    · exact ⟨[], ns, (Exj.of e1).new hD, ((hj.ex e1).upd nD).mono (by omega), by rw [upd_ne nDL.symm]; exact h1, upd_same, rfl, List.Perm.refl _⟩
    · rintro i H2 hi ⟨ts, ls, e2, j2, l2, d2, hti, pm⟩
      have hlen : ts.length + ls.length = ns.length := by rw [← List.length_append]; exact pm.length_eq
      have hi' : i < ns.length := by omega
      refine ⟨rfl, ?_⟩
      show _
      refine ⟨_, rfl, .inl ⟨rfl, _, sqI l2⟩, _, rfl, _, rfl, _, _, rfl, .inl (sqI l2), j, _, _, rfl, j2, by omega, ?_, ?_, fun n H3 k0 k1 e3 j3 => ?_⟩
      · rw [List.length_map]
        omega
      · rw [List.length_map]
        omega
      · rw [List.length_map] at k1
        have l3 := e3 _ _ nL l2
        have hy : ls[n.toNat]? = some (ls[n.toNat]'(by omega)) := List.getElem?_eq_getElem (by omega)
        refine ⟨_, _, _, n.toNat, _, rfl, rfl, l3, by omega, by omega, ?_, by rw [List.getElem?_map, hy]; rfl, ?_⟩
        · rw [List.length_map]
          exact seqIndex_of k0 k1
        · refine ⟨ts.map V.int, by rw [upd_ne nDL]; exact e3 _ _ nD d2, ?_, ?_⟩
          · rw [List.length_map, hti]
            exact Nat.lt_of_lt_of_le (show i < 100 by omega) (by decide)
          · refine ⟨ts ++ [ls[n.toNat]'(by omega)], ls.eraseIdx n.toNat, ?_, ?_, ?_, ?_, by simp [hti], ?_⟩
            · intro b o nb hb
              have hb1 := e1 b o hb
              rw [upd_ne (ne_of_none hb1 hD), upd_ne (ne_of_none hb n1)]
              exact e3 _ _ nb (e2 _ _ nb hb)
            · exact ((j3.upd nL).upd nD).mono (by omega)
            · rw [upd_ne nDL.symm, upd_same, map_erase]
            · rw [upd_same, List.map_append]
              rfl
            · refine List.Perm.trans ?_ pm
              rw [List.append_assoc]
              exact (erase_perm hy).append_left ts
    · rintro H2 ⟨ts, ls, e2, j2, l2, d2, hti, pm⟩
      refine k D H2 ts ls (Ex_back e1 hD) e2 nD (j2.mono (by omega)) d2 pm ?_
      rw [hti]
      omega
end
end K27
set_option Elab.async false
set_option pp.maxSteps 1200
set_option linter.all false
set_option maxRecDepth 100000
set_option maxHeartbeats 4000000
namespace K27
open PySem L2 My
structure NdOk (f : Int → Bool) (dom ks : List Int) : Prop where
  nd : ks.Nodup
  is : ∀ r, r ∉ ks → f r = false
  dm : ∀ r ∈ ks, r ∈ dom
abbrev bb (f : Int → Bool) : Int → V := fun n => .bl (f n)
theorem putK_bb (f : Int → Bool) (k : Int) (b : Bool) (ks : List Int) : putK (kvsOf ks (bb f)) (Sum.inl k) (.bl b) = kvsOf (if k ∈ ks then ks else ks ++ [k]) (bb fun n => if n = k then b else f n) := by
  rw [putK_kvs]
  exact kvs_congr fun n _ => by
    show (if n = k then V.bl b else .bl (f n)) = .bl (if n = k then b else f n)
    split <;> rfl
theorem NdOk.put {f : Int → Bool} {dom ks : List Int} (h : NdOk f dom ks) {k : Int} (b : Bool) (hk : k ∈ dom) : NdOk (fun n => if n = k then b else f n) dom (if k ∈ ks then ks else ks ++ [k]) :=
  ⟨put_nodup h.nd k, fun r hr => by
    have z1 : r ∉ ks := fun z => hr (mem_put.mpr (.inl z))
    have z2 : ¬ r = k := fun z => hr (mem_put.mpr (.inr z))
    show (if r = k then b else f r) = false
    rw [if_neg z2]
    exact h.is r z1, fun r hr => by
    rcases mem_put.mp hr with z | z
    · exact h.dm r z
    · exact z ▸ hk⟩
theorem NdOk.get {f : Int → Bool} {dom ks : List Int} (h : NdOk f dom ks) (k : Int) : (valV (kvsOf ks (bb f)) (Sum.inl k)).getD (.bl false) = .bl (f k) := by
  rw [valV_kvs]
  by_cases z : k ∈ ks
  · rw [if_pos z]
    rfl
  · rw [if_neg z]
    show V.bl false = .bl (f k)
    rw [h.is k z]
theorem NdOk.big {f : Int → Bool} {ms ns ks : List Int} (h : NdOk f (ms ++ ns) ks) (h1 : ms.length ≤ 1000) (h2 : ns.length ≤ 1000) (g : Int → V) : (kvsOf ks g).length < sizeLine := by
  rw [kvs_len]
  have := nodup_len h.nd h.dm
  rw [List.length_append] at this
  exact Nat.lt_of_le_of_lt (show ks.length ≤ 2000 by omega) (by decide)
theorem merge_tt : ∀ (l done : List Int), (done ++ l).Nodup → mergeK (kvsOf done tt) (kvsOf l tt) = kvsOf (done ++ l) tt
  | [], done, _ => by
    rw [List.append_nil]
    rfl
  | x :: l, done, h => by
    show mergeK (putK (kvsOf done tt) (Sum.inl x) (.bl true)) (kvsOf l tt) = _
    have hx : x ∉ done := fun z => by
      have := (List.nodup_append.mp h).2.2 x z x List.mem_cons_self
      exact this rfl
    have e : putK (kvsOf done tt) (Sum.inl x) (.bl true) = kvsOf (done ++ [x]) tt := kvs_snoc done tt x hx
    have h' : (done ++ [x] ++ l).Nodup := by
      rw [List.append_assoc]
      exact h
    rw [e, merge_tt l (done ++ [x]) h', List.append_assoc]
    rfl
theorem span_get {ns : List Int} {a b i : Nat} (h : i < max a b + 1 - min a b) : (span ns a b)[i]? = ns[min a b + i]? := by
  unfold span
  rw [List.getElem?_take, if_pos h, List.getElem?_drop]
theorem span_len {ns : List Int} {a b : Nat} (ha : a < ns.length) (hb : b < ns.length) : (span ns a b).length = max a b + 1 - min a b := by
  unfold span
  rw [List.length_take, List.length_drop]
  omega
def sp__law_done (K : PySem.W.Frag) : Sp := fun vs H Q _ => ∃ (a m b : Addr) (ns ms : List Int) (xs : List V) (cs : List Cl) (an : Option Int), vs = [.ref a, .ref m, anV an, .ref b] ∧ SqL K H a (ns.map V.int) ∧ SqL K H m (ms.map V.int) ∧ SqL K H b xs ∧ ns.Nodup ∧ ns.length ≤ 1000 ∧ ms.Nodup ∧ ms.length ≤ 1000 ∧ Cls K H xs cs ∧ ClOk ns.length cs ∧
  ∀ (p q : Addr) (H' : Hp) (rs : List Int), H p = none → Ex H H' → p ≠ q → H q = none → H' q = some (.tup [.ref p, anV (done ns ms an cs).2]) → H' p = some (.lst (rs.map V.int)) → rs.Pairwise (· < ·) → (∀ r, r ∈ rs ↔ (done ns ms an cs).1 r = true) → (∀ r ∈ rs, r ∈ ms ++ ns) → Q (.ref q) H'
def DInv (a m b nd : Addr) (ns ms : List Int) (st : State) (H1 : Hp) (σ : L2.St) (H' : Hp) : Prop :=
  ∃ w5 w6 w7 w8 w9 w10 ks, σ = [some (.ref a), some (.ref m), some (anV st.2), some (.ref b), some (.ref nd), w5, w6, w7, w8, w9, w10] ∧ Ex H1 H' ∧ H' nd = some (.dK (kvsOf ks (bb st.1))) ∧ NdOk st.1 (ms ++ ns) ks
section
variable {P : Program} {w : World} {K : PySem.W.Frag} {mg : Str → Option Value} {base : Heap}
theorem ok__law_done (T : Txt K mg) : FnOk P w K mg base CX0 1 T.a__law_done T.d__law_done ["_law_there", "_law_marks", "_law_anchor", "_law_clicks_here"] (sp__law_done K) := by
  refine T.f__law_done.ok sc__law_done (fun vs H Q E h => ?_) (fun cdv A outer s H vs Q E hr h => ?_)
  · obtain ⟨a, m, b, ns, ms, xs, cs, an, rfl, _⟩ := h
    rfl
  · obtain ⟨a, m, b, ns, ms, xs, cs, an, rfl, ha, hm, hb, nd', hl, nm, hlm, hc, ok, k⟩ := h
    refine ⟨_, (pss_cons (ps_set (i := 4) sc__law_done.nd rfl (by first | exact Or.inl rfl | exact Or.inr rfl) (pe_callTy (call_dictP rfl) (by rfl) T.z_dict (by decide +kernel) (pa_cons (pe_lc (own := [("_law_row", 7)]) (g := gName 7) (by rfl) sc__law_done.nd (pi_list (pv 1)) (blkOk_by (own := [("_law_row", 7)]) (N := ["_law_there", "_law_marks", "_law_anchor", "_law_clicks_here", "_law_now", "_law_word", "_law_position", "_law_row", "_law_at", "_law_wanted", "_law_place"]) (sc := (defScope s__law_done)) (by decide +kernel)) (fun _ _ _ _ _ => (pg_name (i := 7) sc__law_done.nd rfl (by first | exact Or.inl rfl | exact Or.inr rfl))) (fun _ _ _ _ _ => pts_nil) (fun _ _ _ _ _ => (pe_tupG (pa_cons (pv 7) (pa_cons pe_bl pa_nil))))) pa_nil))) (pss_cons (ps_for PassesOwn.never rfl (pi_list (pv 3)) (pg_tup rfl (pgs_cons (pg_name (i := 5) sc__law_done.nd rfl (by first | exact Or.inl rfl | exact Or.inr rfl)) (pgs_cons (pg_name (i := 6) sc__law_done.nd rfl (by first | exact Or.inl rfl | exact Or.inr rfl)) pgs_nil))) (pss_cons (ps_set (i := 7) sc__law_done.nd rfl (by first | exact Or.inl rfl | exact Or.inr rfl) (pe_ix ix_list (pv 0) (pv 6) (fun _ _ => rfl))) (pss_one (ps_if (pt_cut (PW.pt (pw_and (pt_cmpR op_eq (pv 5) pe_str (nomark _)) (pw_and1 (pt_cmpR op_in_seq (pv 2) (pv 0) (by rfl)))))) (pss_cons (ps_set (i := 8) sc__law_done.nd rfl (by first | exact Or.inl rfl | exact Or.inr rfl) (pe_bm PySem.F.plainAttrs_list PySem.F.slot_list_index PySem.F.type_list_index mt_index (pv 0) (pa_cons (pv 2) pa_nil))) (pss_cons (ps_set (i := 9) sc__law_done.nd rfl (by first | exact Or.inl rfl | exact Or.inr rfl) (pe_dget2 (hu_of hr) (pv 4) (pv 2) pe_bl ⟨rfl, rfl, rfl, rfl⟩)) (pss_one (ps_for PassesOwn.never rfl (pi_range2 (by rfl) T.z_range (pa_cons (pe_callB (call_min2 rfl) (by rfl) T.z_min (by decide +kernel) (pa_cons (pv 8) (pa_cons (pv 6) pa_nil))) (pa_cons (pe_op op_add (pe_callB (call_max2 rfl) (by rfl) T.z_max (by decide +kernel) (pa_cons (pv 8) (pa_cons (pv 6) pa_nil))) pe_int) pa_nil))) (pg_name (i := 10) sc__law_done.nd rfl (by first | exact Or.inl rfl | exact Or.inr rfl)) (pss_one (ps_dput (hu_of hr) (pv 4) (pe_ix ix_list (pv 0) (pv 10) (fun _ _ => rfl)) (pv 9) rfl)))))) (pss_cons (ps_dput (hu_of hr) (pv 4) (pv 7) (pe_not (pe_dget2 (hu_of hr) (pv 4) (pv 7) pe_bl ⟨rfl, rfl, rfl, rfl⟩)) rfl) (pss_one (ps_set (i := 2) sc__law_done.nd rfl (by first | exact Or.inl rfl | exact Or.inr rfl) (pv 7)))))))) (pss_one (ps_ret (pe_tupG (pa_cons (pe_lc (own := [("_law_row", 7)]) (g := gName 7) (by rfl) sc__law_done.nd (pi_list (pe_callB (cr_sortedD rfl) (by rfl) T.z_sorted (by decide +kernel) (pa_cons (pv 4) pa_nil))) (blkOk_by (own := [("_law_row", 7)]) (N := ["_law_there", "_law_marks", "_law_anchor", "_law_clicks_here", "_law_now", "_law_word", "_law_position", "_law_row", "_law_at", "_law_wanted", "_law_place"]) (sc := (defScope s__law_done)) (by decide +kernel)) (fun _ _ _ _ _ => (pg_name (i := 7) sc__law_done.nd rfl (by first | exact Or.inl rfl | exact Or.inr rfl))) (fun _ _ _ _ _ => (pts_one (pt_val (pe_dget (hu_of hr) (pv 4) (pv 7) (fun _ _ => rfl))))) (fun _ _ _ _ _ => (pv 7))) (pa_cons (pv 2) pa_nil))))))), ?_⟩
    -- _law_now = dict([(row, True) for row in marks])
    refine ⟨_, rfl, m, rfl, ⟨_, hm⟩, fun D hD => lc_it (walk_list (K := K) (a := m) (xs := ms.map V.int)) (fun i H' => ∃ ps : List Addr, Ex H H' ∧ H' D = some (.lst (ps.map V.ref)) ∧ ps.length = i ∧ Paired (fun p kv => SqT K H' p [kV kv.1, kv.2]) ps (kvsOf (ms.take i) tt)) ⟨[], Evl.Ex.new hD, upd_same, rfl, .nil⟩ (fun i H' _ ⟨_, z, _⟩ => Evl.ex_l z hm) ?_ ?_⟩
    · rintro i v H2 H3 hi ⟨ps, e2, d2, hps, pr⟩ ⟨rfl, hx⟩
      obtain ⟨t, ht, rfl⟩ := mapI_get hx
      rw [List.length_map] at hi
      refine ⟨rfl, ?_⟩
      show _
      refine ⟨_, rfl, (by show 2 ≤ sizeLine; decide), fun q H4 nq e4 h4 => ?_⟩
      refine ⟨_, e4 _ _ d2, ?_, ps ++ [q], Evl.Ex.mut (e2.trans e4) hD, ?_, by simp [hps], ?_⟩
      · rw [List.length_map, hps]
        exact Nat.lt_of_lt_of_le (show i < 1000 by omega) (by decide)
      · rw [upd_same, List.map_append]
        rfl
      · have up : ∀ {p : Addr} {ys : List V}, SqT K H4 p ys → SqT K (upd H4 D (.lst (ps.map V.ref ++ [.ref q]))) p ys := fun {p ys} h => by
          have d4 := e4 _ _ d2
          rcases h with (h | ⟨o, h⟩) | h
          · refine .inl (.inl ?_)
            rw [upd_ne (fun z => by rw [z, d4] at h; cases h)]
            exact h
          · refine .inl (.inr ⟨o, ?_⟩)
            rw [upd_ne (fun z => by rw [z, d4] at h; cases h)]
            exact h
          · exact .inr h
        rw [take_snoc ht]
        unfold kvsOf
        rw [List.map_append]
        exact Paired.snoc (Paired.mapP pr fun _ _ z => up (Evl.ex_t e4 z)) (up (sqT h4))
    · rintro H2 ⟨ps, e2, d2, hps, pr⟩
      rw [List.length_map, List.take_length] at pr
      refine ⟨D, ps, _, rfl, sqI d2, pr, fun nd hnd => ?_⟩
      have em : mergeK [] (kvsOf ms tt) = kvsOf ms (bb fun r => decide (r ∈ ms)) := by
        refine (merge_tt ms [] nm).trans ?_
        rw [List.nil_append]
        exact kvs_congr fun n hn => by
          show V.bl true = .bl (decide (n ∈ ms))
          rw [decide_eq_true hn]
      rw [em]
      have e3 : Ex H2 (upd H2 nd (.dK (kvsOf ms (bb fun r => decide (r ∈ ms))))) := Evl.Ex.new hnd
      have d3 : upd H2 nd (.dK (kvsOf ms (bb fun r => decide (r ∈ ms)))) nd = some (.dK (kvsOf ms (bb fun r => decide (r ∈ ms)))) := upd_same
      generalize upd H2 nd (.dK (kvsOf ms (bb fun r => decide (r ∈ ms)))) = H3 at e3 d3 ⊢
      -- for word, position in clicks:
      refine ⟨_, rfl, b, rfl, ⟨_, Evl.ex_l (e2.trans e3) hb⟩, for_list (K := K) (a := b) (xs := xs) (fun i σ H' => DInv a m b nd ns ms ((cs.take i).foldl (step ns) (fun r => decide (r ∈ ms), an)) H2 σ H') ?_ ?_ ?_ ?_⟩
      · exact ⟨_, _, _, _, _, _, ms, rfl, e3, d3, nm, fun r hr => decide_eq_false hr, fun r hr => List.mem_append_left _ hr⟩
      · rintro i σ H' _ ⟨_, _, _, _, _, _, _, _, e, _⟩
        exact Evl.ex_l (e2.trans e) hb
      · rintro i x σ H' hi ⟨w5, w6, w7, w8, w9, w10, ks, rfl, e, d, fok⟩
        obtain ⟨c, q, hci, rfl, hq⟩ := (hc.ex (e2.trans e)).get hi
        have cok := ok c (List.mem_of_getElem? hci)
        rw [foldl_take hci]
        generalize (cs.take i).foldl (step ns) (fun r => decide (r ∈ ms), an) = st at d fok ⊢
        obtain ⟨f, an'⟩ := st
        obtain ⟨word, pos⟩ := c
        change NdOk f (ms ++ ns) ks at fok
        change H' nd = some (.dK (kvsOf ks (bb f))) at d
        have p0 : 0 ≤ pos := cok.2.1
        have p1 : pos < ns.length := cok.2.2
        refine ⟨_, _, rfl, hq, rfl, _, _, rfl, _, _, rfl, rfl, ?_⟩
        have ha' := Evl.ex_l (e2.trans e) ha
        refine ⟨_, rfl, _, rfl, _, _, _, _, rfl, rfl, ha', at_row p0 p1, ?_⟩
        refine ⟨fun b H'' => H'' = H' ∧ b = (rng ns word an').isSome, ?_, ?_⟩
        · refine ⟨_, rfl, rfl, _, rfl, ?_⟩
          rw [rng_isSome]
          refine ifB (fun c => ?_) (fun c => ⟨rfl, ?_⟩)
          · have c' : V.str word = V.str "range" := of_decide_eq_true c
            injection c' with c'
            refine ⟨_, rfl, _, rfl, a, _, rfl, .inl ha', ?_, flatI ns, _, rfl, rfl, ?_⟩
            · cases an' <;> rfl
            · show inV (anV an') (ns.map V.int) = _
              rw [decide_eq_true c', Bool.true_and]
              cases an' with
              | none => exact inV_non ns
              | some n => exact inV_int n ns
          · have c' : ¬ word = "range" := fun z => by
              have := of_decide_eq_false c
              exact this (by rw [z])
            rw [decide_eq_false c', Bool.false_and]
        · rintro bv H'' ⟨rfl, rfl⟩
          cases hrng : rng ns word an' with
          | none =>
            rw [step_cl hrng]
            have rm := row_mem p0 p1
            refine iteF ?_
            refine ⟨_, rfl, _, rfl, .inl ⟨_, .inl d⟩, _, rfl, _, .inl ⟨_, Sum.inl (rowAt ns pos), .inl d, rfl, rfl⟩, ?_⟩
            rw [fok.get]
            refine ⟨_, rfl, _, rfl, _, rfl, _, _, rfl, .inl ⟨_, Sum.inl (rowAt ns pos), d, rfl, fok.big hlm hl _, rfl⟩, ?_⟩
            have ef : (fun n => if n = rowAt ns pos then !f (rowAt ns pos) else f n) = (fun r => if r = rowAt ns pos then !f r else f r) := funext fun r => by
              by_cases z : r = rowAt ns pos
              · rw [if_pos z, if_pos z, z]
              · rw [if_neg z, if_neg z]
            rw [putK_bb]
            have nx := fok.put (!f (rowAt ns pos)) (List.mem_append_right ms rm)
            rw [ef] at nx ⊢
            exact ⟨_, rfl, _, _, _, _, _, _, _, rfl, Evl.Ex.mut e hnd, upd_same, nx⟩
          | some n =>
            obtain ⟨rfl, rfl, nm'⟩ := rng_some hrng
            rw [step_rng hrng]
            have ilt : ns.idxOf n < ns.length := List.idxOf_lt_length_of_mem nm'
            refine iteT ?_
            have gn : (ns.map V.int)[ns.idxOf n]? = some (V.int n) := by
              rw [List.getElem?_map, List.getElem?_eq_getElem ilt, List.getElem_idxOf]
              rfl
            refine ⟨_, rfl, .inl ⟨rfl, _, ha'⟩, _, rfl, a, _, _, ns.idxOf n, V.int n, rfl, rfl, ha', rfl, flatI ns, gn, (by show (n == n) = true; simp), ?_, ?_⟩
            · intro k' z' hk' hz'
              obtain ⟨t, ht, rfl⟩ := mapI_get hz'
              show (t == n) = false
              rw [beq_eq_false_iff_ne]
              intro e'
              subst e'
              have := idx_of nd' ht
              omega
            · refine ⟨_, rfl, _, rfl, .inl ⟨_, .inl d⟩, _, rfl, _, .inl ⟨_, Sum.inl n, .inl d, rfl, rfl⟩, ?_⟩
              rw [fok.get]
              have elo : (if pos < (ns.idxOf n : Int) then pos else (ns.idxOf n : Int)) = ((min (ns.idxOf n) pos.toNat : Nat) : Int) := by split <;> omega
              have ehi : (if pos > (ns.idxOf n : Int) then pos else (ns.idxOf n : Int)) = ((max (ns.idxOf n) pos.toNat : Nat) : Int) := by split <;> omega
              have pl : pos.toNat < ns.length := by omega
              refine ⟨_, rfl, _, rfl, _, _, rfl, _, rfl, _, rfl, _, _, rfl, _, _, rfl, rfl, _, _, rfl, ?_, ?_⟩
              · show _ ∧ _ ∧ _ ∧ _
                rw [elo, ehi]
                omega
              have en : ((if pos > (ns.idxOf n : Int) then pos else (ns.idxOf n : Int)) + 1 - (if pos < (ns.idxOf n : Int) then pos else (ns.idxOf n : Int))).toNat = (span ns (ns.idxOf n) pos.toNat).length := by
                rw [elo, ehi, span_len ilt pl]
                omega
              have smem : ∀ r ∈ span ns (ns.idxOf n) pos.toNat, r ∈ ns := fun r hr => List.mem_of_mem_drop (List.mem_of_mem_take hr)
              refine for_range (lo := (if pos < (ns.idxOf n : Int) then pos else (ns.idxOf n : Int))) (n := ((if pos > (ns.idxOf n : Int) then pos else (ns.idxOf n : Int)) + 1 - (if pos < (ns.idxOf n : Int) then pos else (ns.idxOf n : Int))).toNat) (fun j σ' H3 => ∃ v10 ks', σ' = [some (.ref a), some (.ref m), some (.int n), some (.ref b), some (.ref nd), some (.str "range"), some (.int pos), some (.int (rowAt ns pos)), some (.int (ns.idxOf n : Nat)), some (.bl (f n)), v10] ∧ Ex H2 H3 ∧ H3 nd = some (.dK (kvsOf ks' (bb fun r => if r ∈ (span ns (ns.idxOf n) pos.toNat).take j then f n else f r))) ∧ NdOk (fun r => if r ∈ (span ns (ns.idxOf n) pos.toNat).take j then f n else f r) (ms ++ ns) ks') ?_ ?_ ?_
              · exact ⟨_, ks, rfl, e, d, fok⟩
              · rintro j σ' H3 hj ⟨v10, ks', rfl, e3, d3, f3⟩
                rw [en] at hj
                have ht : (span ns (ns.idxOf n) pos.toNat)[j]? = some ((span ns (ns.idxOf n) pos.toNat)[j]'hj) := List.getElem?_eq_getElem hj
                generalize (span ns (ns.idxOf n) pos.toNat)[j]'hj = t at ht
                have tm := smem t (List.mem_of_getElem? ht)
                have hg : atI (ns.map V.int) ((if pos < (ns.idxOf n : Int) then pos else (ns.idxOf n : Int)) + j) = some (.int t) := by
                  rw [elo]
                  refine at_of (j := min (ns.idxOf n) pos.toNat + j) (by omega) ?_
                  rw [span_len ilt pl] at hj
                  rw [span_get hj] at ht
                  rw [List.getElem?_map, ht]
                  rfl
                refine ⟨_, rfl, _, rfl, _, rfl, _, rfl, _, _, _, _, rfl, rfl, Evl.ex_l (e2.trans e3) ha, hg, _, _, rfl, .inl ⟨_, Sum.inl t, d3, rfl, f3.big hlm hl _, rfl⟩, ?_⟩
                rw [putK_bb]
                have nx := f3.put (f n) (List.mem_append_right ms tm)
                have ef : (fun r => if r = t then f n else if r ∈ (span ns (ns.idxOf n) pos.toNat).take j then f n else f r) = (fun r => if r ∈ (span ns (ns.idxOf n) pos.toNat).take (j + 1) then f n else f r) := funext fun r => by
                  rw [take_snoc ht]
                  by_cases z : r = t
                  · rw [if_pos z, if_pos (by simp [z])]
                  · rw [if_neg z]
                    by_cases z2 : r ∈ (span ns (ns.idxOf n) pos.toNat).take j
                    · rw [if_pos z2, if_pos (List.mem_append_left _ z2)]
                    · rw [if_neg z2, if_neg (by simp [z, z2])]
                rw [ef] at nx ⊢
                exact ⟨_, _, rfl, Evl.Ex.mut e3 hnd, upd_same, nx⟩
              · rintro σ' H3 ⟨v10, ks', rfl, e3, d3, f3⟩
                rw [en, List.take_length] at d3 f3
                exact ⟨_, _, _, _, _, _, ks', rfl, e3, d3, f3⟩
      · rintro σ H' ⟨w5, w6, w7, w8, w9, w10, ks, rfl, e, d, fok⟩
        have el : xs.length = cs.length := hc.1
        have ed : (cs.take xs.length).foldl (step ns) (fun r => decide (r ∈ ms), an) = done ns ms an cs := by
          rw [el, List.take_length]
          rfl
        rw [ed] at d fok ⊢
        have ks_len : ks.length ≤ 2000 := by
          have := nodup_len fok.nd fok.dm
          rw [List.length_append] at this
          omega
        refine ⟨_, rfl, nd, _, ks, rfl, d, kvs_keys ks _, fun rs hp hs S H4 nS e4 h4 => ?_⟩
        have nSd : S ≠ nd := fun z => by rw [z, d] at nS; cases nS
        refine ⟨S, rfl, ⟨_, sqI h4⟩, fun D' hD' => lc_it (walk_list (K := K) (a := S) (xs := rs.map V.int)) (fun i H5 => Ex H4 H5 ∧ H5 D' = some (.lst (((rs.take i).filter (done ns ms an cs).1).map V.int))) ⟨Evl.Ex.new hD', upd_same⟩ (fun i H5 _ z => sqI (z.1 _ _ h4)) ?_ ?_⟩
        · rintro i v H5 H6 hi ⟨e5, d5⟩ ⟨rfl, hx⟩
          obtain ⟨t, ht, rfl⟩ := mapI_get hx
          rw [List.length_map] at hi
          have tk : t ∈ ks := hp.mem_iff.mp (List.mem_of_getElem? ht)
          have dd := (e4.trans e5) _ _ d
          refine ⟨rfl, ?_⟩
          show _
          refine ⟨_, rfl, _, rfl, _, _, rfl, .inl ⟨_, Sum.inl t, .inl dd, rfl, by rw [valV_kvs, if_pos tk]⟩, _, rfl, ?_⟩
          rw [take_snoc ht, List.filter_append]
          refine ifB (fun c => ?_) (fun c => ?_)
          · refine ⟨_, rfl, _, d5, ?_, Evl.Ex.mut e5 hD', ?_⟩
            · rw [List.length_map]
              refine Nat.lt_of_le_of_lt (List.length_filter_le _ _) ?_
              rw [List.length_take]
              have := hp.length_eq
              exact Nat.lt_of_le_of_lt (show _ ≤ 2000 by omega) (by decide)
            · rw [upd_same, List.filter_cons, c, List.map_append]
              rfl
          · refine ⟨e5, ?_⟩
            rw [List.filter_cons, c, d5]
            simp
        · rintro H5 ⟨e5, d5⟩
          rw [List.length_map, List.take_length] at d5
          refine ⟨_, rfl, (by show 2 ≤ sizeLine; decide), fun q H6 nq e6 h6 => ?_⟩
          have eH : Ex H H4 := e2.trans (e.trans e4)
          refine k D' q H6 (rs.filter (done ns ms an cs).1) (Ex_back eH hD') (eH.trans (e5.trans e6)) (ne_of_none d5 nq) (Ex_back (eH.trans e5) nq) h6 (e6 _ _ d5) ?_ (fun r => ?_) (fun r hr => fok.dm r (hp.mem_iff.mp (List.mem_filter.mp hr).1))
          · exact (asc_of hp hs fok.nd).sublist List.filter_sublist
          · rw [List.mem_filter, hp.mem_iff]
            constructor
            · exact fun z => z.2
            · intro z
              refine ⟨?_, z⟩
              by_cases zz : r ∈ ks
              · exact zz
              · rw [fok.is r zz] at z
                cases z
end
end K27
set_option Elab.async false
set_option pp.maxSteps 1200
set_option linter.all false
set_option maxRecDepth 100000
set_option maxHeartbeats 4000000
namespace K27
open PySem L2 My
/-! borders, blocks, costs, covers of marks -/
abbrev Bk := Int × Int
def flagL (ns ms : List Int) : List Bool := [false] ++ ns.map (fun r => decide (r ∈ ms)) ++ [false]
def bordersL (ns ms : List Int) : List Int := ((List.range (ns.length + 1)).map fun i => (0 : Int) + ((i : Nat) : Int)).filter fun p => !decide ((flagL ns ms).getD p.toNat false = (flagL ns ms).getD (p.toNat + 1) false)
def addB (bs : List Bk) (b : Int) : List Bk := match bs.getLast? with
  | none => bs ++ [(b, b)]
  | some k => if k.2 = b - 1 then bs.dropLast ++ [(k.1, b)] else bs ++ [(b, b)]
def blocksL (ps : List Int) : List Bk := ps.foldl addB []
def costB (k : Bk) : Int := (k.2 - k.1 + 2) / 2
def costL (ns ms : List Int) : Int := ((blocksL (bordersL ns ms)).map costB).sum
def numB (k : Bk) : Int := if (k.2 - k.1 + 1) % 2 = 1 then (k.2 - k.1 + 1) / 2 + 1 else 1
def countL (ns ms : List Int) : Int := ((blocksL (bordersL ns ms)).map numB).foldl (· * ·) 1
theorem addB_snoc (bs : List Bk) (k : Bk) (b : Int) : addB (bs ++ [k]) b = if k.2 = b - 1 then bs ++ [(k.1, b)] else bs ++ [k] ++ [(b, b)] := by
  unfold addB
  rw [List.getLast?_concat]
  simp only [List.dropLast_concat]
theorem addB_len (bs : List Bk) (b : Int) : (addB bs b).length ≤ bs.length + 1 := by
  unfold addB
  split
  · simp
  · split
    · have : bs.dropLast.length ≤ bs.length := by rw [List.length_dropLast]; omega
      rw [List.length_append]
      show _ + 1 ≤ _
      omega
    · simp
theorem foldB_len : ∀ (ps : List Int) (bs : List Bk), (ps.foldl addB bs).length ≤ bs.length + ps.length
  | [], bs => Nat.le_refl _
  | p :: ps, bs => by
    have := foldB_len ps (addB bs p)
    have := addB_len bs p
    rw [List.foldl_cons, List.length_cons]
    omega
theorem blocks_len (ps : List Int) : (blocksL ps).length ≤ ps.length := by
  have := foldB_len ps []
  simpa [blocksL] using this
theorem borders_len (ns ms : List Int) : (bordersL ns ms).length ≤ ns.length + 1 := by
  unfold bordersL
  refine Nat.le_trans (List.length_filter_le _ _) ?_
  simp
theorem borders_in_ {ns ms : List Int} {p : Int} (h : p ∈ bordersL ns ms) : 0 ≤ p ∧ p ≤ ns.length := by
  obtain ⟨i, hi, rfl⟩ := List.mem_map.mp (List.mem_filter.mp h).1
  have := List.mem_range.mp hi
  omega
/-- the places of all blocks lie between -/
theorem fold_in {P : Int → Prop} : ∀ (ps : List Int) (bs : List Bk), (∀ p ∈ ps, P p) → (∀ k ∈ bs, P k.1 ∧ P k.2) → ∀ k ∈ ps.foldl addB bs, P k.1 ∧ P k.2
  | [], bs, _, hb => hb
  | p :: ps, bs, hp, hb => by
    refine fold_in ps (addB bs p) (fun q hq => hp q (List.mem_cons_of_mem _ hq)) fun k hk => ?_
    have pp := hp p List.mem_cons_self
    unfold addB at hk
    split at hk
    · rcases List.mem_append.mp hk with z | z
      · exact hb k z
      · rw [List.mem_singleton.mp z]; exact ⟨pp, pp⟩
    · rename_i l hl
      have ll := List.mem_of_getLast? hl
      split at hk
      · rcases List.mem_append.mp hk with z | z
        · exact hb k (List.dropLast_subset _ z)
        · rw [List.mem_singleton.mp z]; exact ⟨(hb l ll).1, pp⟩
      · rcases List.mem_append.mp hk with z | z
        · exact hb k z
        · rw [List.mem_singleton.mp z]; exact ⟨pp, pp⟩
theorem blocks_in {ns ms : List Int} {k : Bk} (h : k ∈ blocksL (bordersL ns ms)) : (0 ≤ k.1 ∧ k.1 ≤ ns.length) ∧ (0 ≤ k.2 ∧ k.2 ≤ ns.length) :=
  fold_in (P := fun p => 0 ≤ p ∧ p ≤ ns.length) _ [] (fun p hp => borders_in_ hp) (fun k hk => by cases hk) k h
end K27
set_option Elab.async false
set_option pp.maxSteps 1200
set_option linter.all false
set_option maxRecDepth 100000
set_option maxHeartbeats 4000000
namespace K27
open PySem L2 My
theorem decBl (a b : Bool) : decide (V.bl a = V.bl b) = decide (a = b) := by
  rw [decide_eq_decide]
  exact ⟨fun z => by injection z, fun z => by rw [z]⟩
theorem decInt (a b : Int) : decide (V.int a = V.int b) = decide (a = b) := by
  rw [decide_eq_decide]
  exact ⟨fun z => by injection z, fun z => by rw [z]⟩
theorem snoc_of {α : Type} {ks : List α} (h : ks ≠ []) : ∃ l k, ks = l ++ [k] := ⟨_, _, (List.dropLast_concat_getLast h).symm⟩
/-- a pair of ints in the heap -/
def BkR (K : PySem.W.Frag) (H : Hp) (v : V) (k : Bk) : Prop := ∃ q, v = .ref q ∧ SqT K H q [.int k.1, .int k.2]
theorem BkR.ex {K : PySem.W.Frag} {H H' : Hp} {v : V} {k : Bk} (h : BkR K H v k) (e : Ex H H') : BkR K H' v k := let ⟨q, a, b⟩ := h; ⟨q, a, Evl.ex_t e b⟩
abbrev eB : Bk → PyData := eP PyData.int PyData.int
theorem goodBk : Good eB 1 := goodP goodI goodI
theorem BkR.dp {K : PySem.W.Frag} {H : Hp} {v : V} {k : Bk} (h : BkR K H v k) : Dp K H v (eB k) := by
  obtain ⟨q, rfl, b⟩ := h
  exact .tup b (.cons (.int _) (.cons (.int _) .nil))
theorem sqT_exj {K : PySem.W.Frag} {H H' : Hp} {j q : Addr} {xs ys : List V} (e : Exj j H H') (hj : H j = some (.lst ys)) (h : SqT K H q xs) : SqT K H' q xs := by
  rcases h with (h | ⟨o, h⟩) | h
  · exact .inl (.inl (e _ _ (fun z => by rw [z, hj] at h; cases h) h))
  · exact .inl (.inr ⟨o, e _ _ (fun z => by rw [z, hj] at h; cases h) h⟩)
  · exact .inr h
theorem BkR.exj {K : PySem.W.Frag} {H H' : Hp} {j : Addr} {ys : List V} {v : V} {k : Bk} (h : BkR K H v k) (e : Exj j H H') (hj : H j = some (.lst ys)) : BkR K H' v k := let ⟨q, a, b⟩ := h; ⟨q, a, sqT_exj e hj b⟩
theorem nilD {α : Type} {e : α → PyData} {K : PySem.W.Frag} {H : Hp} {p : Addr} (h : H p = some (.lst [])) : Dp K H (.ref p) (eL e []) := .lst (sqI h) .nil
def sp_check_marks_there (K : PySem.W.Frag) : Sp := fun vs H Q _ => ∃ (a m : Addr) (ns ms : List Int), vs = [.ref a, .ref m] ∧ SqL K H a (ns.map V.int) ∧ SqL K H m (ms.map V.int) ∧ ns.length ≤ 1000 ∧ ms.Pairwise (· < ·) ∧ ms.length ≤ 1000 ∧ (∀ r ∈ ms, r ∈ ns) ∧ ∀ H', Ex H H' → Q .non H'
def sp_borders_in (K : PySem.W.Frag) : Sp := fun vs H Q _ => ∃ (a m : Addr) (ns ms : List Int), vs = [.ref a, .ref m] ∧ SqL K H a (ns.map V.int) ∧ SqL K H m (ms.map V.int) ∧ ns.length ≤ 500 ∧ New (.lst ((bordersL ns ms).map V.int)) H Q
def sp_blocks_of (K : PySem.W.Frag) : Sp := fun vs H Q _ => ∃ (a : Addr) (ps : List Int), vs = [.ref a] ∧ SqL K H a (ps.map V.int) ∧ ps.length ≤ 1000 ∧ ∀ p H' us, H p = none → Ex H H' → H' p = some (.lst us) → AllR (BkR K H') us (blocksL ps) → Q (.ref p) H'
def sp_cost_in (K : PySem.W.Frag) : Sp := fun vs H Q _ => ∃ (a m : Addr) (ns ms : List Int), vs = [.ref a, .ref m] ∧ SqL K H a (ns.map V.int) ∧ SqL K H m (ms.map V.int) ∧ ns.length ≤ 500 ∧ ∀ H', Ex H H' → Q (.int (costL ns ms)) H'
def sp_borders (K : PySem.W.Frag) : Sp := fun vs H Q _ => ∃ (a m : Addr) (ns ms : List Int), vs = [.ref a, .ref m] ∧ SqL K H a (ns.map V.int) ∧ SqL K H m (ms.map V.int) ∧ ns.Nodup ∧ ns.length ≤ 500 ∧ ms.Pairwise (· < ·) ∧ ms.length ≤ 1000 ∧ ∀ p H', H p = none → Ex H H' → H' p = some (.lst ((bordersL ns ms).map V.int)) → Q (.ref p) H'
def sp_cost (K : PySem.W.Frag) : Sp := fun vs H Q _ => ∃ (a m : Addr) (ns ms : List Int), vs = [.ref a, .ref m] ∧ SqL K H a (ns.map V.int) ∧ SqL K H m (ms.map V.int) ∧ ns.Nodup ∧ ns.length ≤ 500 ∧ ms.Pairwise (· < ·) ∧ ms.length ≤ 1000 ∧ (∀ r ∈ ms, r ∈ ns) ∧ ∀ H', Ex H H' → Q (.int (costL ns ms)) H'
section
variable {w : World} {K : PySem.W.Frag} {mg : Str → Option Value} {base : Heap}
theorem ok_check_marks_there (T : Txt K mg) : FnOk PR w K mg base (L2.CX PR w) 3 T.a_check_marks_there T.d_check_marks_there ["there", "marks"] (sp_check_marks_there K) := by
  refine T.f_check_marks_there.okX sc_check_marks_there (fun vs H Q E h => ?_) (fun cdv A outer s H vs Q E hr h => ?_)
  · obtain ⟨a, m, ns, ms, rfl, _⟩ := h
    rfl
  · obtain ⟨a, m, ns, ms, rfl, ha, hm, nl, pw, hl, sub, k⟩ := h
    refine ⟨_, (pss_one (ps_if (PW.pt (pw_or (pt_not (pt_val (pe_call (ok_are_marks T) (hr.mono (by decide)) (by rfl) T.g_are_marks T.f_are_marks.kp (b_are_marks T) .nil pass0 (pa_cons (pv 1) pa_nil)))) (pw_or1 (pt_not (pt_val (pe_callB (cr_all rfl) (by rfl) T.z_all (by decide +kernel) (pa_cons (pe_lc (own := [("row", 2)]) (g := gName 2) (by rfl) sc_check_marks_there.nd (pi_list (pv 1)) (blkOk_by (own := [("row", 2)]) (N := ["there", "marks", "row"]) (sc := (defScope s_check_marks_there)) (by decide +kernel)) (fun _ _ _ _ _ => (pg_name (i := 2) sc_check_marks_there.nd rfl (by first | exact Or.inl rfl | exact Or.inr rfl))) (fun _ _ _ _ _ => pts_nil) (fun _ _ _ _ _ => (pe_cmpR (opK (r := fun K => rIn K false) (K := K) (by rfl) op_in_seq) (pv 2) (pv 0) (by rfl)))) pa_nil))))))) (pss_one (ps_raise rfl (takes_of rfl rfl rfl rfl) (pmk_err (ok_init T) (b_init T) T.e_InvalidMarks (hr.mono (by decide)) (by rfl) T.g_InvalidMarks (pa_cons (pe_callTy call_listG (by rfl) T.z_list (by decide +kernel) (pa_cons (pv 1) pa_nil)) pa_nil)))) pss_nil)), ?_⟩
    refine ⟨_, rfl, m, ms, rfl, hm, pw, hl, fun H1 e1 => ?_⟩
    refine ⟨_, rfl, ifF rfl ?_⟩
    refine ⟨_, rfl, m, rfl, ⟨_, Evl.ex_l e1 hm⟩, fun D hD => lc_mapL (K := K) (a := m) (ys := (ms.map fun _ => true).map V.bl) (Evl.ex_l e1 hm) hD (by simp) (by rw [List.length_map]; exact Nat.le_trans hl (by decide)) (fun x => rfl) ?_ ?_⟩
    · intro i x y H' e' hx hy R kR
      obtain ⟨c, hc, rfl⟩ := mapI_get hx
      rw [List.getElem?_map, List.getElem?_map, hc] at hy
      cases hy
      refine ⟨_, rfl, _, rfl, _, _, rfl, .inl (Evl.ex_l (e1.trans e') ha), rfl, flatI _, ?_⟩
      show R (.bl (inV (V.int c) (ns.map V.int))) _
      rw [inV_int, decide_eq_true (sub c (List.mem_of_getElem? hc))]
      exact kR H' (Evl.Ex.refl _)
    intro H2 e2 d2
    refine ⟨D, _, rfl, sqI d2, ?_⟩
    have : (ms.map fun _ => true).all id = true := by simp
    rw [this]
    exact ⟨_, rfl, ifF rfl (k H2 (e1.trans e2))⟩
theorem ok_borders_in (T : Txt K mg) : FnOk PR w K mg base CX0 1 T.a_borders_in T.d_borders_in ["there", "marks"] (sp_borders_in K) := by
  refine T.f_borders_in.ok sc_borders_in (fun vs H Q E h => ?_) (fun cdv A outer s H vs Q E hr h => ?_)
  · obtain ⟨a, m, ns, ms, rfl, _⟩ := h
    rfl
  · obtain ⟨a, m, ns, ms, rfl, ha, hm, nl, k⟩ := h
    refine ⟨_, (pss_cons (ps_set (i := 2) sc_borders_in.nd rfl (by first | exact Or.inl rfl | exact Or.inr rfl) (pe_op op_catG (pe_op op_catG (pe_lstG (pa_cons pe_bl pa_nil)) (pe_lc (own := [("row", 3)]) (g := gName 3) (by rfl) sc_borders_in.nd (pi_list (pv 0)) (blkOk_by (own := [("row", 3)]) (N := ["there", "marks", "flags", "row", "place"]) (sc := (defScope s_borders_in)) (by decide +kernel)) (fun _ _ _ _ _ => (pg_name (i := 3) sc_borders_in.nd rfl (by first | exact Or.inl rfl | exact Or.inr rfl))) (fun _ _ _ _ _ => pts_nil) (fun _ _ _ _ _ => (pe_cmpR (opK (r := fun K => rIn K false) (K := K) (by rfl) op_in_seq) (pv 3) (pv 1) (by rfl))))) (pe_lstG (pa_cons pe_bl pa_nil)))) (pss_one (ps_ret (pe_lc (own := [("place", 4)]) (g := gName 4) (by rfl) sc_borders_in.nd (pi_range1 (by rfl) T.z_range (pa_cons (pe_op op_add (pe_callB call_len_seq (by rfl) T.z_len PySem.boot_len (pa_cons (pv 0) pa_nil)) pe_int) pa_nil)) (blkOk_by (own := [("place", 4)]) (N := ["there", "marks", "flags", "row", "place"]) (sc := (defScope s_borders_in)) (by decide +kernel)) (fun _ _ _ _ _ => (pg_name (i := 4) sc_borders_in.nd rfl (by first | exact Or.inl rfl | exact Or.inr rfl))) (fun _ _ _ _ _ => (pts_one (pt_cmpR op_ne (pe_ix (ixK (r := rIxL) (K := K) (by rfl) ix_list) (pv 2) (pv 4) (fun _ _ => rfl)) (pe_ix (ixK (r := rIxL) (K := K) (by rfl) ix_list) (pv 2) (pe_op op_add (pv 4) pe_int) (fun _ _ => rfl)) (nomark _)))) (fun _ _ _ _ _ => (pv 4)))))), ?_⟩
    refine ⟨(by show 1 ≤ sizeLine; decide), fun p1 H1 n1 e1 h1 => ?_⟩
    refine ⟨_, rfl, a, rfl, ⟨_, Evl.ex_l e1 ha⟩, fun D hD => lc_mapL (K := K) (a := a) (ys := (ns.map fun r => decide (r ∈ ms)).map V.bl) (Evl.ex_l e1 ha) hD (by simp) (by rw [List.length_map]; exact Nat.le_trans nl (by decide)) (fun x => rfl) ?_ ?_⟩
    · intro i x y H' e' hx hy R kR
      obtain ⟨c, hc, rfl⟩ := mapI_get hx
      rw [List.getElem?_map, List.getElem?_map, hc] at hy
      cases hy
      refine ⟨_, rfl, _, rfl, _, _, rfl, .inl (Evl.ex_l (e1.trans e') hm), rfl, flatI _, ?_⟩
      show R (.bl (inV (V.int c) (ms.map V.int))) _
      rw [inV_int]
      exact kR H' (Evl.Ex.refl _)
    intro H2 e2 d2
    have sz : ([V.bl false] ++ (ns.map fun r => decide (r ∈ ms)).map V.bl).length + 1 ≤ sizeLine := by
      rw [List.length_append, List.length_map, List.length_map]
      exact Nat.le_trans (show 1 + ns.length + 1 ≤ 502 by omega) (by decide)
    refine ⟨_, _, _, _, rfl, rfl, e2 _ _ h1, d2, Nat.le_trans (show _ ≤ 501 by rw [List.length_map, List.length_map]; show 1 + ns.length ≤ 501; omega) (by decide), fun p3 H3 n3 e3 h3 => ?_⟩
    refine ⟨(by show 1 ≤ sizeLine; decide), fun p4 H4 n4 e4 h4 => ?_⟩
    refine ⟨_, _, _, _, rfl, rfl, e4 _ _ h3, h4, sz, fun p5 H5 n5 e5 h5 => ?_⟩
    have h5 : H5 p5 = some (.lst ((flagL ns ms).map V.bl)) := by
      rw [h5]
      unfold flagL
      rw [List.map_append, List.map_append]
      rfl
    have e05 := e1.trans (e2.trans (e3.trans (e4.trans e5)))
    have fl : (flagL ns ms).length = ns.length + 2 := by simp [flagL]
    have atF : ∀ i : Nat, i < ns.length + 2 → atI ((flagL ns ms).map V.bl) ((i : Nat) : Int) = some (.bl ((flagL ns ms).getD i false)) := fun i hi => by
      refine at_of (j := i) rfl ?_
      rw [List.getElem?_map, List.getD_eq_getElem?_getD, List.getElem?_eq_getElem (by omega)]
      rfl
    refine ⟨_, rfl, _, _, rfl, .inl (Evl.ex_l e05 ha), _, _, rfl, rfl, _, rfl, (by rw [List.length_map]; omega), (by rw [List.length_map]; omega), ?_⟩
    rw [List.length_map]
    refine fun D2 hD2 => lc_filtR (p := fun p => !decide ((flagL ns ms).getD p.toNat false = (flagL ns ms).getD (p.toNat + 1) false)) hD2 (by omega) (fun x => rfl) ?_ ?_ ?_
    · intro i H' hi e' Z kZ
      have hi : i < ns.length + 1 := by omega
      have ei : ((0 : Int) + (i : Int)).toNat = i := by omega
      have e6 : (0 : Int) + (i : Int) = ((i : Nat) : Int) := by omega
      have e7 : (0 : Int) + (i : Int) + 1 = ((i + 1 : Nat) : Int) := by omega
      refine ⟨_, rfl, _, rfl, _, _, _, _, rfl, rfl, sqI (e' _ _ h5), (by rw [e6]; exact atF i (by omega)), _, rfl, _, rfl, _, _, rfl, rfl, _, _, _, _, rfl, rfl, sqI (e' _ _ h5), (by rw [e7]; exact atF (i + 1) (by omega)), rfl, _, rfl, ?_⟩
      rw [decBl]
      have := kZ H' (Evl.Ex.refl _)
      rw [ei] at this
      exact this
    · intro v H' N kN
      exact ⟨_, rfl, kN⟩
    intro H6 e6 d6
    have e6' : (((ns.length : Nat) : Int) + 1).toNat = ns.length + 1 := by omega
    rw [e6'] at d6
    exact k D2 H6 (none_of e05 hD2) (e05.trans e6) d6
theorem ok_blocks_of (T : Txt K mg) : FnOk PR w K mg base CX0 1 T.a_blocks_of T.d_blocks_of ["places"] (sp_blocks_of K) := by
  refine T.f_blocks_of.ok sc_blocks_of (fun vs H Q E h => ?_) (fun cdv A outer s H vs Q E hr h => ?_)
  · obtain ⟨a, ps, rfl, _⟩ := h
    rfl
  · obtain ⟨a, ps, rfl, ha, hl, k⟩ := h
    refine ⟨_, (pss_cons (ps_set (i := 1) sc_blocks_of.nd rfl (by first | exact Or.inl rfl | exact Or.inr rfl) (pe_lstG pa_nil)) (pss_cons (ps_for PassesOwn.never rfl (pi_list (pv 0)) (pg_name (i := 2) sc_blocks_of.nd rfl (by first | exact Or.inl rfl | exact Or.inr rfl)) (pss_one (ps_if (PW.pt (pw_and (pt_cmpR (op_neD hr.units) (pv 1) (pe_lstG pa_nil) (nomark _)) (pw_and1 (pt_cmpR op_eq (pe_ix ix_tup (pe_ix ix_list (pv 1) (pe_un un_neg pe_int) (fun _ _ => rfl)) pe_int (fun _ _ => rfl)) (pe_op op_sub (pv 2) pe_int) (nomark _))))) (pss_one (ps_asg (pe_tupG (pa_cons (pe_ix ix_tup (pe_ix ix_list (pv 1) (pe_un un_neg pe_int) (fun _ _ => rfl)) pe_int (fun _ _ => rfl)) (pa_cons (pv 2) pa_nil))) (pg_sub (pv 1) (pe_un un_neg pe_int) set_list))) (pss_one (ps_expr (pe_bm PySem.F.plainAttrs_list PySem.F.slot_list_append PySem.F.type_list_append mt_append (pv 1) (pa_cons (pe_tupG (pa_cons (pv 2) (pa_cons (pv 2) pa_nil))) pa_nil))))))) (pss_one (ps_ret (pv 1))))), ?_⟩
    refine ⟨(by show 0 ≤ sizeLine; decide), fun F H1 nF e1 hF => ?_⟩
    refine ⟨_, rfl, a, rfl, ⟨_, Evl.ex_l e1 ha⟩, for_it (walk_list (K := K) (a := a) (xs := ps.map V.int)) (fun i σ H' => ∃ (v2 : Option V) (us : List V), σ = [some (.ref a), some (.ref F), v2] ∧ Ex H H' ∧ H' F = some (.lst us) ∧ AllR (BkR K H') us (blocksL (ps.take i))) ⟨_, [], rfl, e1, hF, AllR.nil⟩ (fun i σ H' _ ⟨_, _, _, e, _⟩ => Evl.ex_l e ha) ?_ ?_⟩
    · rintro i v σ HX H2 hi ⟨v2, us, rfl, e2, f2, a2⟩ ⟨rfl, hv⟩
      obtain ⟨b, hb, rfl⟩ := mapI_get hv
      have ul := a2.1
      have bl := blocks_len (ps.take i)
      have tl : (ps.take i).length ≤ i := by rw [List.length_take]; exact Nat.min_le_left _ _
      have hi' : i < ps.length := by simpa using hi
      have tk : blocksL (ps.take (i + 1)) = addB (blocksL (ps.take i)) b := by
        unfold blocksL
        rw [take_snoc hb, List.foldl_append]
        rfl
      have app : addB (blocksL (ps.take i)) b = blocksL (ps.take i) ++ [(b, b)] → ∀ {H3 : Hp}, Ex H2 H3 → H3 F = some (.lst us) ∧ us.length < sizeLine ∧ ∀ (p : Addr), H3 p = some (.tup [.int b, .int b]) → p ≠ F → ∃ (v2 : Option V) (us' : List V), [some (V.ref a), some (.ref F), some (.int b)] = [some (V.ref a), some (.ref F), v2] ∧ Ex H (upd H3 F (.lst (us ++ [.ref p]))) ∧ upd H3 F (.lst (us ++ [.ref p])) F = some (.lst us') ∧ AllR (BkR K (upd H3 F (.lst (us ++ [.ref p])))) us' (blocksL (ps.take (i + 1))) := fun ea H3 e3 => by
        refine ⟨e3 _ _ f2, Nat.lt_of_le_of_lt (show us.length ≤ 2000 by omega) (by decide), fun p hp np => ?_⟩
        have ej : Exj F H2 (upd H3 F (.lst (us ++ [.ref p]))) := (Exj.of e3).upd
        refine ⟨_, us ++ [.ref p], rfl, Evl.Ex.mut (e2.trans e3) nF, upd_same, ?_⟩
        rw [tk, ea]
        exact AllR.snoc (a2.mono fun v x r => r.exj ej f2) ⟨p, rfl, sqT (by rw [upd_ne np]; exact hp)⟩
      refine ⟨_, rfl, (by show 0 ≤ sizeLine; decide), fun p3 H3 n3 e3 h3 => ?_⟩
      have dF : Dp K H3 (.ref F) (eL eB (blocksL (ps.take i))) := .lst (sqI (e3 _ _ f2)) ((a2.mono fun v x r => r.ex e3).dp fun v x r => r.dp)
      refine neE (goodL goodBk) (by decide) (x := blocksL (ps.take i)) (y := []) dF (nilD h3) ⟨_, rfl, ?_⟩
      refine ifB (fun c => ?_) (fun c => ?_)
      · have ne : blocksL (ps.take i) ≠ [] := by simpa using c
        obtain ⟨l, kk, el⟩ := snoc_of ne
        rw [el] at a2 ul
        obtain ⟨us0, u, rfl⟩ : ∃ us0 u, us = us0 ++ [u] := snoc_of (fun z => by rw [z] at ul; simp at ul)
        have ul0 : us0.length = l.length := by simpa using ul
        obtain ⟨q, rfl, hq⟩ := a2.2 l.length u kk (by rw [← ul0]; simp) (by simp)
        have f3 := e3 _ _ f2
        have al : atI (us0 ++ [V.ref q]) (-1) = some (.ref q) := atI_last _ _
        refine ⟨_, rfl, _, rfl, _, _, _, _, rfl, rfl, sqI f3, al, _, _, _, _, rfl, rfl, Evl.ex_t e3 hq, at1, _, rfl, _, _, rfl, rfl, rfl, _, rfl, ?_⟩
        rw [decInt]
        refine ifB (fun c2 => ?_) (fun c2 => ?_)
        · have c2 : kk.2 = b - 1 := of_decide_eq_true c2
          have ea : addB (blocksL (ps.take i)) b = l ++ [(kk.1, b)] := by rw [el, addB_snoc, if_pos c2]
          refine ⟨_, rfl, _, rfl, _, _, _, _, rfl, rfl, sqI f3, al, _, _, _, _, rfl, rfl, Evl.ex_t e3 hq, at0, _, rfl, (by show 2 ≤ sizeLine; decide), fun p4 H4 n4 e4 h4 => ?_⟩
          have f4 := e4 _ _ f3
          have n4F : p4 ≠ F := (ne_of_none f3 n4).symm
          have ix : ixN (us0 ++ [V.ref q]).length (-1) = some us0.length := by
            rw [List.length_append]
            show ixN (us0.length + 1) (-1) = _
            unfold ixN
            simp
            omega
          refine ⟨_, rfl, _, rfl, _, _, _, _, rfl, rfl, f4, ix, ?_⟩
          have es : (us0 ++ [V.ref q]).set us0.length (.ref p4) = us0 ++ [.ref p4] := by simp
          rw [es]
          have ej : Exj F H2 (upd H4 F (.lst (us0 ++ [.ref p4]))) := (Exj.of (e3.trans e4)).upd
          refine ⟨_, us0 ++ [.ref p4], rfl, Evl.Ex.mut (e2.trans (e3.trans e4)) nF, upd_same, ?_⟩
          rw [tk, ea]
          have a0 : AllR (BkR K H2) us0 l := ⟨ul0, fun i' v x h1 h2 => a2.2 i' v x (by rw [List.getElem?_append_left (List.getElem?_eq_some_iff.mp h1).1]; exact h1) (by rw [List.getElem?_append_left (List.getElem?_eq_some_iff.mp h2).1]; exact h2)⟩
          exact AllR.snoc (a0.mono fun v x r => r.exj ej f2) ⟨p4, rfl, sqT (by rw [upd_ne n4F]; exact h4)⟩
        · have c2 : ¬ kk.2 = b - 1 := of_decide_eq_false c2
          have ea : addB (blocksL (ps.take i)) b = blocksL (ps.take i) ++ [(b, b)] := by rw [el, addB_snoc, if_neg c2]
          refine ⟨_, rfl, .inl ⟨rfl, _, sqI f3⟩, _, rfl, _, rfl, (by show 2 ≤ sizeLine; decide), fun p4 H4 n4 e4 h4 => ?_⟩
          obtain ⟨g1, g2, g3⟩ := app ea (e3.trans e4)
          exact ⟨_, _, _, rfl, rfl, g1, g2, g3 p4 h4 (ne_of_none f3 n4).symm⟩
      · have e : blocksL (ps.take i) = [] := by simpa using c
        have ea : addB (blocksL (ps.take i)) b = blocksL (ps.take i) ++ [(b, b)] := by rw [e]; rfl
        have f3 := e3 _ _ f2
        refine ⟨_, rfl, .inl ⟨rfl, _, sqI f3⟩, _, rfl, _, rfl, (by show 2 ≤ sizeLine; decide), fun p4 H4 n4 e4 h4 => ?_⟩
        obtain ⟨g1, g2, g3⟩ := app ea (e3.trans e4)
        exact ⟨_, _, _, rfl, rfl, g1, g2, g3 p4 h4 (ne_of_none f3 n4).symm⟩
    · rintro σ H2 ⟨v2, us, rfl, e2, f2, a2⟩
      rw [List.length_map, List.take_length] at a2
      exact ⟨_, rfl, k F H2 us nF e2 f2 a2⟩
theorem ok_cost_in (T : Txt K mg) : FnOk PR w K mg base CX0 2 T.a_cost_in T.d_cost_in ["there", "marks"] (sp_cost_in K) := by
  refine T.f_cost_in.ok sc_cost_in (fun vs H Q E h => ?_) (fun cdv A outer s H vs Q E hr h => ?_)
  · obtain ⟨a, m, ns, ms, rfl, _⟩ := h
    rfl
  · obtain ⟨a, m, ns, ms, rfl, ha, hm, nl, k⟩ := h
    refine ⟨_, (pss_one (ps_ret (pe_callB (cr_sum rfl) (by rfl) T.z_sum (by decide +kernel) (pa_cons (pe_lc (own := [("first", 2), ("last", 3)]) (g := (gTup K 2 (gCons (gName 2) (gCons (gName 3) gNil)))) (by rfl) sc_cost_in.nd (pi_list (pe_call (ok_blocks_of T) (hr.mono (by decide)) (by rfl) T.g_blocks_of T.f_blocks_of.kp (b_blocks_of T) .nil pass0 (pa_cons (pe_call (ok_borders_in T) (hr.mono (by decide)) (by rfl) T.g_borders_in T.f_borders_in.kp (b_borders_in T) .nil pass0 (pa_cons (pv 0) (pa_cons (pv 1) pa_nil))) pa_nil))) (blkOk_by (own := [("first", 2), ("last", 3)]) (N := ["there", "marks", "first", "last"]) (sc := (defScope s_cost_in)) (by decide +kernel)) (fun _ _ _ _ _ => (pg_tup rfl (pgs_cons (pg_name (i := 2) sc_cost_in.nd rfl (by first | exact Or.inl rfl | exact Or.inr rfl)) (pgs_cons (pg_name (i := 3) sc_cost_in.nd rfl (by first | exact Or.inl rfl | exact Or.inr rfl)) pgs_nil)))) (fun _ _ _ _ _ => pts_nil) (fun _ _ _ _ _ => (pe_op op_fdivW (pe_op op_add (pe_op op_sub (pv 3) (pv 2)) pe_int) pe_int))) pa_nil)))), ?_⟩
    have bl := borders_len ns ms
    have kl := blocks_len (bordersL ns ms)
    refine ⟨_, rfl, _, rfl, a, m, ns, ms, rfl, ha, hm, nl, fun p1 H1 n1 e1 h1 => ?_⟩
    refine ⟨p1, bordersL ns ms, rfl, sqI h1, by omega, fun p2 H2 us n2 e2 h2 a2 => ?_⟩
    refine ⟨p2, rfl, ⟨_, sqI h2⟩, fun D hD => lc_mapG (K := K) (a := p2) (ys := ((blocksL (bordersL ns ms)).map costB).map V.int) (sqI h2) hD (by rw [List.length_map, List.length_map]; exact a2.1.symm) (by rw [a2.1]; exact Nat.le_trans (show _ ≤ 600 by omega) (by decide)) ?_ ?_⟩
    · intro i x y H' e' hx hy N Z kN
      obtain ⟨kk, hki, q, rfl, hq⟩ := AllR.get a2 hx
      rw [List.getElem?_map, List.getElem?_map, hki] at hy
      cases hy
      refine ⟨_, _, rfl, Evl.ex_t e' hq, rfl, _, _, rfl, _, _, rfl, rfl, rfl, ?_⟩
      show _
      exact ⟨_, rfl, _, rfl, _, _, rfl, rfl, _, _, rfl, rfl, _, _, rfl, rfl, wide_div (b := 20) (by decide) (by decide) (by decide) (by decide), kN H' (Evl.Ex.refl _)⟩
    intro H3 e3 d3
    exact ⟨D, _, rfl, sqI d3, k H3 (e1.trans (e2.trans e3))⟩
theorem ok_borders (T : Txt K mg) : FnOk PR w K mg base (L2.CX PR w) 4 T.a_borders T.d_borders ["there", "marks"] (sp_borders K) := by
  refine T.f_borders.okX sc_borders (fun vs H Q E h => ?_) (fun cdv A outer s H vs Q E hr h => ?_)
  · obtain ⟨a, m, ns, ms, rfl, _⟩ := h
    rfl
  · obtain ⟨a, m, ns, ms, rfl, ha, hm, nd, nl, pw, ml, k⟩ := h
    refine ⟨_, (pss_cons (ps_expr (pe_call (ok_check_there T) (hr.mono (by decide)) (by rfl) T.g_check_there T.f_check_there.kp (b_check_there T) .nil passX (pa_cons (pv 0) pa_nil))) (pss_cons (ps_expr (pe_call (ok_check_marks T) (hr.mono (by decide)) (by rfl) T.g_check_marks T.f_check_marks.kp (b_check_marks T) .nil passX (pa_cons (pv 1) pa_nil))) (pss_one (ps_ret (pe_call (ok_borders_in T) (hr.mono (by decide)) (by rfl) T.g_borders_in T.f_borders_in.kp (b_borders_in T) .nil pass0 (pa_cons (pv 0) (pa_cons (pv 1) pa_nil))))))), ?_⟩
    refine ⟨_, rfl, a, ns, rfl, ha, nd, by omega, ?_⟩
    refine ⟨_, rfl, m, ms, rfl, hm, pw, ml, fun H1 e1 => ?_⟩
    exact ⟨_, rfl, _, rfl, a, m, ns, ms, rfl, Evl.ex_l e1 ha, Evl.ex_l e1 hm, nl, fun p H2 n2 e2 h2 => k p H2 (none_of e1 n2) (e1.trans e2) h2⟩
theorem ok_cost (T : Txt K mg) : FnOk PR w K mg base (L2.CX PR w) 4 T.a_cost T.d_cost ["there", "marks"] (sp_cost K) := by
  refine T.f_cost.okX sc_cost (fun vs H Q E h => ?_) (fun cdv A outer s H vs Q E hr h => ?_)
  · obtain ⟨a, m, ns, ms, rfl, _⟩ := h
    rfl
  · obtain ⟨a, m, ns, ms, rfl, ha, hm, nd, nl, pw, ml, sub, k⟩ := h
    refine ⟨_, (pss_cons (ps_expr (pe_call (ok_check_there T) (hr.mono (by decide)) (by rfl) T.g_check_there T.f_check_there.kp (b_check_there T) .nil passX (pa_cons (pv 0) pa_nil))) (pss_cons (ps_expr (pe_call (ok_check_marks_there T) (hr.mono (by decide)) (by rfl) T.g_check_marks_there T.f_check_marks_there.kp (b_check_marks_there T) .nil passX (pa_cons (pv 0) (pa_cons (pv 1) pa_nil)))) (pss_one (ps_ret (pe_call (ok_cost_in T) (hr.mono (by decide)) (by rfl) T.g_cost_in T.f_cost_in.kp (b_cost_in T) .nil pass0 (pa_cons (pv 0) (pa_cons (pv 1) pa_nil))))))), ?_⟩
    refine ⟨_, rfl, a, ns, rfl, ha, nd, by omega, ?_⟩
    refine ⟨_, rfl, _, rfl, a, m, ns, ms, rfl, ha, hm, by omega, pw, ml, sub, fun H1 e1 => ?_⟩
    exact ⟨_, rfl, _, rfl, a, m, ns, ms, rfl, Evl.ex_l e1 ha, Evl.ex_l e1 hm, nl, fun H2 e2 => k H2 (e1.trans e2)⟩
end
end K27
set_option Elab.async false
set_option pp.maxSteps 1200
set_option linter.all false
set_option maxRecDepth 100000
set_option maxHeartbeats 4000000
namespace K27
open PySem L2 My
theorem flag_in {ns ms : List Int} {p : Nat} (h : p < ns.length) : (flagL ns ms).getD (p + 1) false = decide (ns.getD p 0 ∈ ms) := by
  unfold flagL
  rw [List.getD_eq_getElem?_getD, List.getElem?_append_left (by simp; omega), List.getElem?_append_right (by simp)]
  show ((ns.map fun r => decide (r ∈ ms))[p]?).getD false = _
  rw [List.getElem?_map, List.getD_eq_getElem?_getD, List.getElem?_eq_getElem h]
  rfl
theorem flag_out {ns ms : List Int} {p : Nat} (h : ns.length ≤ p) : (flagL ns ms).getD (p + 1) false = false := by
  unfold flagL
  rw [List.getD_eq_getElem?_getD, List.getElem?_append_right (by simp; omega)]
  simp only [List.length_append, List.length_map, List.length_cons, List.length_nil]
  by_cases e : p = ns.length
  · subst e
    rw [show ns.length + 1 - (0 + 1 + ns.length) = 0 by omega]
    rfl
  · rw [List.getElem?_eq_none (by simp; omega)]
    rfl
theorem at_nat {ns : List Int} {p : Nat} (h : p < ns.length) : atI (ns.map V.int) ((p : Nat) : Int) = some (.int (ns.getD p 0)) := by
  refine at_of (j := p) rfl ?_
  rw [List.getElem?_map, List.getD_eq_getElem?_getD, List.getElem?_eq_getElem h]
  rfl
def prB (ns ms : List Int) (p : Int) : Bool := !decide ((flagL ns ms).getD p.toNat false = (flagL ns ms).getD (p.toNat + 1) false)
def sp_blocks (K : PySem.W.Frag) : Sp := fun vs H Q _ => ∃ (a m : Addr) (ns ms : List Int), vs = [.ref a, .ref m] ∧ SqL K H a (ns.map V.int) ∧ SqL K H m (ms.map V.int) ∧ ns.Nodup ∧ ns.length ≤ 500 ∧ ms.Pairwise (· < ·) ∧ ms.length ≤ 1000 ∧ ∀ p H' us, H p = none → Ex H H' → H' p = some (.lst us) → AllR (BkR K H') us (blocksL (bordersL ns ms)) → Q (.ref p) H'
def sp__law_borders (K : PySem.W.Frag) : Sp := fun vs H Q _ => ∃ (a m : Addr) (ns ms : List Int), vs = [.ref a, .ref m] ∧ SqL K H a (ns.map V.int) ∧ SqL K H m (ms.map V.int) ∧ ns.length ≤ 500 ∧ New (.lst ((bordersL ns ms).map V.int)) H Q
def sp__law_blocks (K : PySem.W.Frag) : Sp := fun vs H Q _ => ∃ (a : Addr) (ps : List Int), vs = [.ref a] ∧ SqL K H a (ps.map V.int) ∧ ps.length ≤ 1000 ∧ ∀ p H' us, H p = none → Ex H H' → H' p = some (.lst us) → AllR (BkR K H') us (blocksL ps) → Q (.ref p) H'
section
variable {w : World} {K : PySem.W.Frag} {mg : Str → Option Value} {base : Heap}
theorem ok_blocks (T : Txt K mg) : FnOk PR w K mg base (L2.CX PR w) 4 T.a_blocks T.d_blocks ["there", "marks"] (sp_blocks K) := by
  refine T.f_blocks.okX sc_blocks (fun vs H Q E h => ?_) (fun cdv A outer s H vs Q E hr h => ?_)
  · obtain ⟨a, m, ns, ms, rfl, _⟩ := h
    rfl
  · obtain ⟨a, m, ns, ms, rfl, ha, hm, nd, nl, pw, ml, k⟩ := h
    refine ⟨_, (pss_cons (ps_expr (pe_call (ok_check_there T) (hr.mono (by decide)) (by rfl) T.g_check_there T.f_check_there.kp (b_check_there T) .nil passX (pa_cons (pv 0) pa_nil))) (pss_cons (ps_expr (pe_call (ok_check_marks T) (hr.mono (by decide)) (by rfl) T.g_check_marks T.f_check_marks.kp (b_check_marks T) .nil passX (pa_cons (pv 1) pa_nil))) (pss_one (ps_ret (pe_call (ok_blocks_of T) (hr.mono (by decide)) (by rfl) T.g_blocks_of T.f_blocks_of.kp (b_blocks_of T) .nil pass0 (pa_cons (pe_call (ok_borders_in T) (hr.mono (by decide)) (by rfl) T.g_borders_in T.f_borders_in.kp (b_borders_in T) .nil pass0 (pa_cons (pv 0) (pa_cons (pv 1) pa_nil))) pa_nil)))))), ?_⟩
    have bl := borders_len ns ms
    refine ⟨_, rfl, a, ns, rfl, ha, nd, by omega, ?_⟩
    refine ⟨_, rfl, m, ms, rfl, hm, pw, ml, fun H1 e1 => ?_⟩
    refine ⟨_, rfl, _, rfl, a, m, ns, ms, rfl, Evl.ex_l e1 ha, Evl.ex_l e1 hm, nl, fun p H2 n2 e2 h2 => ?_⟩
    exact ⟨p, bordersL ns ms, rfl, sqI h2, by omega, fun p3 H3 us n3 e3 h3 a3 => k p3 H3 us (none_of (e1.trans e2) n3) (e1.trans (e2.trans e3)) h3 a3⟩
theorem ok__law_borders (T : Txt K mg) : FnOk PR w K mg base CX0 1 T.a__law_borders T.d__law_borders ["_law_there", "_law_marks"] (sp__law_borders K) := by
  refine T.f__law_borders.ok sc__law_borders (fun vs H Q E h => ?_) (fun cdv A outer s H vs Q E hr h => ?_)
  · obtain ⟨a, m, ns, ms, rfl, _⟩ := h
    rfl
  · obtain ⟨a, m, ns, ms, rfl, ha, hm, nl, k⟩ := h
    refine ⟨_, (pss_cons (ps_set (i := 2) sc__law_borders.nd rfl (by first | exact Or.inl rfl | exact Or.inr rfl) (pe_lstG pa_nil)) (pss_cons (ps_for PassesOwn.never rfl (pi_range1 (by rfl) T.z_range (pa_cons (pe_op op_add (pe_callB call_len_seq (by rfl) T.z_len PySem.boot_len (pa_cons (pv 0) pa_nil)) pe_int) pa_nil)) (pg_name (i := 3) sc__law_borders.nd rfl (by first | exact Or.inl rfl | exact Or.inr rfl)) (pss_cons (ps_cut (ps_set (i := 4) sc__law_borders.nd rfl (by first | exact Or.inl rfl | exact Or.inr rfl) (pe_and (pe_cmpR op_gt (pv 3) pe_int (nomark _)) (pe_one (pe_cmpR op_in_seq (pe_ix ix_list (pv 0) (pe_op op_sub (pv 3) pe_int) (fun _ _ => rfl)) (pv 1) (by rfl)))))) (pss_one (ps_if (pt_cut (pt_cmpR op_ne (pv 4) (pe_and (pe_cmpR op_lt (pv 3) (pe_callB call_len_seq (by rfl) T.z_len PySem.boot_len (pa_cons (pv 0) pa_nil)) (nomark _)) (pe_one (pe_cmpR op_in_seq (pe_ix ix_list (pv 0) (pv 3) (fun _ _ => rfl)) (pv 1) (by rfl)))) (nomark _))) (pss_one (ps_expr (pe_bm PySem.F.plainAttrs_list PySem.F.slot_list_append PySem.F.type_list_append mt_append (pv 2) (pa_cons (pv 3) pa_nil)))) pss_nil)))) (pss_one (ps_ret (pv 2))))), ?_⟩
    refine ⟨(by show 0 ≤ sizeLine; decide), fun F H1 nF e1 hF => ?_⟩
    refine ⟨_, rfl, _, _, rfl, .inl (Evl.ex_l e1 ha), _, _, rfl, rfl, _, rfl, (by rw [List.length_map]; omega), (by rw [List.length_map]; omega), ?_⟩
    rw [List.length_map]
    refine for_range (lo := 0) (n := (((ns.length : Nat) : Int) + 1).toNat) (fun i σ H' => ∃ v3 v4, σ = [some (.ref a), some (.ref m), some (.ref F), v3, v4] ∧ Ex H H' ∧ H' F = some (.lst ((((List.range i).map fun i => (0 : Int) + ((i : Nat) : Int)).filter (prB ns ms)).map V.int))) ⟨_, _, rfl, e1, hF⟩ ?_ ?_
    · rintro i σ H2 hi ⟨v3, v4, rfl, e2, d2⟩
      have hi : i < ns.length + 1 := by omega
      have ei : ((0 : Int) + (i : Int)) = ((i : Nat) : Int) := by omega
      rw [ei]
      refine ⟨fun σ' H' => σ' = [some (.ref a), some (.ref m), some (.ref F), some (.int ((i : Nat) : Int)), some (.bl ((flagL ns ms).getD i false))] ∧ H2 = H', ?_, ?_⟩
      · refine ⟨_, rfl, _, _, rfl, rfl, _, rfl, ?_⟩
        refine ifB (fun c => ?_) (fun c => ?_)
        · have c : ((i : Nat) : Int) > 0 := of_decide_eq_true c
          obtain ⟨q, rfl⟩ : ∃ q, i = q + 1 := ⟨i - 1, by omega⟩
          have e3 : (((q + 1 : Nat) : Int) - 1) = ((q : Nat) : Int) := by omega
          refine ⟨_, rfl, _, rfl, _, _, rfl, rfl, _, _, _, _, rfl, rfl, Evl.ex_l e2 ha, (by rw [e3]; exact at_nat (by omega)), _, rfl, _, _, rfl, .inl (Evl.ex_l e2 hm), rfl, flatI _, ?_⟩
          rw [inV_int, ← flag_in (by omega)]
          exact ⟨rfl, rfl⟩
        · have c : ¬ ((i : Nat) : Int) > 0 := of_decide_eq_false c
          obtain rfl : i = 0 := by omega
          exact ⟨rfl, rfl⟩
      rintro σ' H' ⟨rfl, rfl⟩
      refine ⟨fun b H' => b = prB ns ms ((i : Nat) : Int) ∧ H2 = H', ?_, ?_⟩
      · refine ⟨_, rfl, _, rfl, _, rfl, _, _, rfl, .inl (Evl.ex_l e2 ha), _, _, rfl, rfl, _, rfl, ?_⟩
        refine ifB (fun c => ?_) (fun c => ?_)
        · have c := of_decide_eq_true c
          rw [List.length_map] at c
          refine ⟨_, rfl, _, rfl, _, _, _, _, rfl, rfl, Evl.ex_l e2 ha, at_nat (by omega), _, rfl, _, _, rfl, .inl (Evl.ex_l e2 hm), rfl, flatI _, rfl, _, rfl, ?_⟩
          rw [inV_int, ← flag_in (by omega), decBl]
          exact ⟨rfl, rfl⟩
        · have c := of_decide_eq_false c
          rw [List.length_map] at c
          have fo := flag_out (ns := ns) (ms := ms) (p := i) (by omega)
          refine ⟨rfl, _, rfl, ?_⟩
          rw [decBl]
          refine ⟨?_, rfl⟩
          unfold prB
          rw [show (((i : Nat) : Int)).toNat = i from rfl, fo]
      rintro b H' ⟨rfl, rfl⟩
      rw [List.range_succ, List.map_append, List.filter_append]
      refine ifB (fun c => ?_) (fun c => ?_)
      · refine ⟨_, rfl, .inl ⟨rfl, _, sqI d2⟩, _, rfl, _, _, _, rfl, rfl, d2, ?_, _, _, rfl, Evl.Ex.mut e2 nF, ?_⟩
        · rw [List.length_map]
          have h1 := List.length_filter_le (prB ns ms) ((List.range i).map fun i => (0 : Int) + ((i : Nat) : Int))
          rw [List.length_map, List.length_range] at h1
          exact Nat.lt_of_le_of_lt (show _ ≤ 1000 by omega) (by decide)
        · rw [upd_same, List.map_append, List.map_cons, List.filter_cons, ei, if_pos c]
          rfl
      · refine ⟨_, _, rfl, e2, ?_⟩
        rw [d2, List.map_cons, List.filter_cons, ei, if_neg (by rw [c]; exact Bool.false_ne_true)]
        simp
    · rintro σ H2 ⟨v3, v4, rfl, e2, d2⟩
      have en : (((ns.length : Nat) : Int) + 1).toNat = ns.length + 1 := by omega
      rw [en] at d2
      exact ⟨_, rfl, k F H2 nF e2 d2⟩
theorem ok__law_blocks (T : Txt K mg) : FnOk PR w K mg base CX0 1 T.a__law_blocks T.d__law_blocks ["_law_found"] (sp__law_blocks K) := by
  refine T.f__law_blocks.ok sc__law_blocks (fun vs H Q E h => ?_) (fun cdv A outer s H vs Q E hr h => ?_)
  · obtain ⟨a, ps, rfl, _⟩ := h
    rfl
  · obtain ⟨a, ps, rfl, ha, hl, k⟩ := h
    refine ⟨_, (pss_cons (ps_set (i := 1) sc__law_blocks.nd rfl (by first | exact Or.inl rfl | exact Or.inr rfl) (pe_lstG pa_nil)) (pss_cons (ps_for PassesOwn.never rfl (pi_list (pv 0)) (pg_name (i := 2) sc__law_blocks.nd rfl (by first | exact Or.inl rfl | exact Or.inr rfl)) (pss_one (ps_if (PW.pt (pw_and (pt_cmpR (op_neD hr.units) (pv 1) (pe_lstG pa_nil) (nomark _)) (pw_and1 (pt_cmpR op_eq (pe_op op_add (pe_ix ix_tup (pe_ix ix_list (pv 1) (pe_un un_neg pe_int) (fun _ _ => rfl)) pe_int (fun _ _ => rfl)) pe_int) (pv 2) (nomark _))))) (pss_one (ps_asg (pe_tupG (pa_cons (pe_ix ix_tup (pe_ix ix_list (pv 1) (pe_un un_neg pe_int) (fun _ _ => rfl)) pe_int (fun _ _ => rfl)) (pa_cons (pv 2) pa_nil))) (pg_sub (pv 1) (pe_un un_neg pe_int) set_list))) (pss_one (ps_expr (pe_bm PySem.F.plainAttrs_list PySem.F.slot_list_append PySem.F.type_list_append mt_append (pv 1) (pa_cons (pe_tupG (pa_cons (pv 2) (pa_cons (pv 2) pa_nil))) pa_nil))))))) (pss_one (ps_ret (pv 1))))), ?_⟩
    refine ⟨(by show 0 ≤ sizeLine; decide), fun F H1 nF e1 hF => ?_⟩
    refine ⟨_, rfl, a, rfl, ⟨_, Evl.ex_l e1 ha⟩, for_it (walk_list (K := K) (a := a) (xs := ps.map V.int)) (fun i σ H' => ∃ (v2 : Option V) (us : List V), σ = [some (.ref a), some (.ref F), v2] ∧ Ex H H' ∧ H' F = some (.lst us) ∧ AllR (BkR K H') us (blocksL (ps.take i))) ⟨_, [], rfl, e1, hF, AllR.nil⟩ (fun i σ H' _ ⟨_, _, _, e, _⟩ => Evl.ex_l e ha) ?_ ?_⟩
    · rintro i v σ HX H2 hi ⟨v2, us, rfl, e2, f2, a2⟩ ⟨rfl, hv⟩
      obtain ⟨b, hb, rfl⟩ := mapI_get hv
      have ul := a2.1
      have bl := blocks_len (ps.take i)
      have tl : (ps.take i).length ≤ i := by rw [List.length_take]; exact Nat.min_le_left _ _
      have hi' : i < ps.length := by simpa using hi
      have tk : blocksL (ps.take (i + 1)) = addB (blocksL (ps.take i)) b := by
        unfold blocksL
        rw [take_snoc hb, List.foldl_append]
        rfl
      have app : addB (blocksL (ps.take i)) b = blocksL (ps.take i) ++ [(b, b)] → ∀ {H3 : Hp}, Ex H2 H3 → H3 F = some (.lst us) ∧ us.length < sizeLine ∧ ∀ (p : Addr), H3 p = some (.tup [.int b, .int b]) → p ≠ F → ∃ (v2 : Option V) (us' : List V), [some (V.ref a), some (.ref F), some (.int b)] = [some (V.ref a), some (.ref F), v2] ∧ Ex H (upd H3 F (.lst (us ++ [.ref p]))) ∧ upd H3 F (.lst (us ++ [.ref p])) F = some (.lst us') ∧ AllR (BkR K (upd H3 F (.lst (us ++ [.ref p])))) us' (blocksL (ps.take (i + 1))) := fun ea H3 e3 => by
        refine ⟨e3 _ _ f2, Nat.lt_of_le_of_lt (show us.length ≤ 2000 by omega) (by decide), fun p hp np => ?_⟩
        have ej : Exj F H2 (upd H3 F (.lst (us ++ [.ref p]))) := (Exj.of e3).upd
        refine ⟨_, us ++ [.ref p], rfl, Evl.Ex.mut (e2.trans e3) nF, upd_same, ?_⟩
        rw [tk, ea]
        exact AllR.snoc (a2.mono fun v x r => r.exj ej f2) ⟨p, rfl, sqT (by rw [upd_ne np]; exact hp)⟩
      refine ⟨_, rfl, (by show 0 ≤ sizeLine; decide), fun p3 H3 n3 e3 h3 => ?_⟩
      have dF : Dp K H3 (.ref F) (eL eB (blocksL (ps.take i))) := .lst (sqI (e3 _ _ f2)) ((a2.mono fun v x r => r.ex e3).dp fun v x r => r.dp)
      refine neE (goodL goodBk) (by decide) (x := blocksL (ps.take i)) (y := []) dF (nilD h3) ⟨_, rfl, ?_⟩
      refine ifB (fun c => ?_) (fun c => ?_)
      · have ne : blocksL (ps.take i) ≠ [] := by simpa using c
        obtain ⟨l, kk, el⟩ := snoc_of ne
        rw [el] at a2 ul
        obtain ⟨us0, u, rfl⟩ : ∃ us0 u, us = us0 ++ [u] := snoc_of (fun z => by rw [z] at ul; simp at ul)
        have ul0 : us0.length = l.length := by simpa using ul
        obtain ⟨q, rfl, hq⟩ := a2.2 l.length u kk (by rw [← ul0]; simp) (by simp)
        have f3 := e3 _ _ f2
        have al : atI (us0 ++ [V.ref q]) (-1) = some (.ref q) := atI_last _ _
        refine ⟨_, rfl, _, rfl, _, _, _, _, rfl, rfl, sqI f3, al, _, _, _, _, rfl, rfl, Evl.ex_t e3 hq, at1, _, _, rfl, rfl, _, rfl, rfl, _, rfl, ?_⟩
        rw [decInt]
        refine ifB (fun c2 => ?_) (fun c2 => ?_)
        · have c2 : kk.2 = b - 1 := by have := of_decide_eq_true c2; omega
          have ea : addB (blocksL (ps.take i)) b = l ++ [(kk.1, b)] := by rw [el, addB_snoc, if_pos c2]
          refine ⟨_, rfl, _, rfl, _, _, _, _, rfl, rfl, sqI f3, al, _, _, _, _, rfl, rfl, Evl.ex_t e3 hq, at0, _, rfl, (by show 2 ≤ sizeLine; decide), fun p4 H4 n4 e4 h4 => ?_⟩
          have f4 := e4 _ _ f3
          have n4F : p4 ≠ F := (ne_of_none f3 n4).symm
          have ix : ixN (us0 ++ [V.ref q]).length (-1) = some us0.length := by
            rw [List.length_append]
            show ixN (us0.length + 1) (-1) = _
            unfold ixN
            simp
            omega
          refine ⟨_, rfl, _, rfl, _, _, _, _, rfl, rfl, f4, ix, ?_⟩
          have es : (us0 ++ [V.ref q]).set us0.length (.ref p4) = us0 ++ [.ref p4] := by simp
          rw [es]
          have ej : Exj F H2 (upd H4 F (.lst (us0 ++ [.ref p4]))) := (Exj.of (e3.trans e4)).upd
          refine ⟨_, us0 ++ [.ref p4], rfl, Evl.Ex.mut (e2.trans (e3.trans e4)) nF, upd_same, ?_⟩
          rw [tk, ea]
          have a0 : AllR (BkR K H2) us0 l := ⟨ul0, fun i' v x h1 h2 => a2.2 i' v x (by rw [List.getElem?_append_left (List.getElem?_eq_some_iff.mp h1).1]; exact h1) (by rw [List.getElem?_append_left (List.getElem?_eq_some_iff.mp h2).1]; exact h2)⟩
          exact AllR.snoc (a0.mono fun v x r => r.exj ej f2) ⟨p4, rfl, sqT (by rw [upd_ne n4F]; exact h4)⟩
        · have c2 : ¬ kk.2 = b - 1 := by have := of_decide_eq_false c2; omega
          have ea : addB (blocksL (ps.take i)) b = blocksL (ps.take i) ++ [(b, b)] := by rw [el, addB_snoc, if_neg c2]
          refine ⟨_, rfl, .inl ⟨rfl, _, sqI f3⟩, _, rfl, _, rfl, (by show 2 ≤ sizeLine; decide), fun p4 H4 n4 e4 h4 => ?_⟩
          obtain ⟨g1, g2, g3⟩ := app ea (e3.trans e4)
          exact ⟨_, _, _, rfl, rfl, g1, g2, g3 p4 h4 (ne_of_none f3 n4).symm⟩
      · have e : blocksL (ps.take i) = [] := by simpa using c
        have ea : addB (blocksL (ps.take i)) b = blocksL (ps.take i) ++ [(b, b)] := by rw [e]; rfl
        have f3 := e3 _ _ f2
        refine ⟨_, rfl, .inl ⟨rfl, _, sqI f3⟩, _, rfl, _, rfl, (by show 2 ≤ sizeLine; decide), fun p4 H4 n4 e4 h4 => ?_⟩
        obtain ⟨g1, g2, g3⟩ := app ea (e3.trans e4)
        exact ⟨_, _, _, rfl, rfl, g1, g2, g3 p4 h4 (ne_of_none f3 n4).symm⟩
    · rintro σ H2 ⟨v2, us, rfl, e2, f2, a2⟩
      rw [List.length_map, List.take_length] at a2
      exact ⟨_, rfl, k F H2 us nF e2 f2 a2⟩
end
end K27
set_option Elab.async false
set_option linter.all false
set_option maxRecDepth 100000
set_option maxHeartbeats 4000000
namespace K27
open PySem L2 My
/-! the cost told place by place -/
def cstep (ps : List Int) (st : Int × Int) (j : Int) : Int × Int := if j ∈ ps then (st.1, st.2 + 1) else (st.1 + (st.2 + 1) / 2, 0)
def cfold (ps : List Int) (n : Nat) : Int × Int := ((List.range n).map fun i => ((i : Nat) : Int)).foldl (cstep ps) (0, 0)
theorem cfold_succ (ps : List Int) (n : Nat) : cfold ps (n + 1) = cstep ps (cfold ps n) n := by
  unfold cfold
  rw [List.range_succ, List.map_append, List.foldl_append]
  rfl
theorem filt_in {j : Int} : ∀ {ps : List Int}, ps.Pairwise (· < ·) → j ∈ ps → ps.filter (fun p => decide (p < j + 1)) = ps.filter (fun p => decide (p < j)) ++ [j]
  | [], _, h => nomatch h
  | p :: r, hp, h => by
    obtain ⟨h1, h2⟩ := List.pairwise_cons.mp hp
    rw [List.filter_cons, List.filter_cons]
    rcases List.mem_cons.mp h with e | e
    · subst e
      have z : ∀ b : Int, b ≤ j + 1 → r.filter (fun p => decide (p < b)) = [] := fun b hb => List.filter_eq_nil_iff.mpr fun q hq => by
        have := h1 q hq
        simp
        omega
      rw [if_pos (by simp; omega), if_neg (by simp), z (j + 1) (by omega), z j (by omega)]
      rfl
    · have := h1 j e
      rw [if_pos (by simp; omega), if_pos (by simp; omega), filt_in h2 e]
      rfl
theorem filt_out {j : Int} {ps : List Int} (h : j ∉ ps) : ps.filter (fun p => decide (p < j + 1)) = ps.filter (fun p => decide (p < j)) :=
  List.filter_congr fun p hp => by
    rw [decide_eq_decide]
    have : p ≠ j := fun e => h (e ▸ hp)
    omega
theorem blocks_add (ps : List Int) (j : Int) : blocksL (ps ++ [j]) = addB (blocksL ps) j := by
  unfold blocksL
  rw [List.foldl_append]
  rfl
theorem cost_inv {ps : List Int} (hp : ps.Pairwise (· < ·)) (h0 : ∀ p ∈ ps, 0 ≤ p) : ∀ n : Nat, ∃ bs, blocksL (ps.filter fun p => decide (p < (n : Int))) = bs ++ (if (cfold ps n).2 = 0 then [] else [((n : Int) - (cfold ps n).2, (n : Int) - 1)]) ∧ (cfold ps n).1 = (bs.map costB).sum ∧ 0 ≤ (cfold ps n).2 ∧ ((cfold ps n).2 = 0 → ∀ l k, bs = l ++ [k] → k.2 < (n : Int) - 1)
  | 0 => by
    refine ⟨[], ?_, rfl, Int.le_refl _, fun _ l k e => by simp at e⟩
    have : ps.filter (fun p => decide (p < ((0 : Nat) : Int))) = [] := List.filter_eq_nil_iff.mpr fun q hq => by
      have := h0 q hq
      simp
      omega
    rw [this]
    rfl
  | n + 1 => by
    obtain ⟨bs, h1, h2, h3, h4⟩ := cost_inv hp h0 n
    rw [cfold_succ]
    generalize cfold ps n = st at h1 h2 h3 h4
    obtain ⟨f, l⟩ := st
    unfold cstep
    dsimp only at h1 h2 h3 h4 ⊢
    have en : ((n + 1 : Nat) : Int) = (n : Int) + 1 := by omega
    rw [en]
    by_cases hj : (n : Int) ∈ ps
    · rw [if_pos hj, filt_in hp hj, blocks_add, h1]
      dsimp only
      rw [if_neg (show ¬ l + 1 = 0 by omega)]
      by_cases z : l = 0
      · rw [if_pos z, List.append_nil]
        refine ⟨bs, ?_, h2, by omega, fun q => by omega⟩
        rw [z]
        rcases List.eq_nil_or_concat bs with e | ⟨l', k, e⟩
        · rw [e]
          show [((n : Int), (n : Int))] = [((n : Int) + 1 - (0 + 1), (n : Int) + 1 - 1)]
          rw [show (n : Int) + 1 - (0 + 1) = n by omega, show (n : Int) + 1 - 1 = n by omega]
        · rw [List.concat_eq_append] at e
          have := h4 z l' k e
          rw [e, addB_snoc, if_neg (by omega)]
          rw [show (n : Int) + 1 - (0 + 1) = n by omega, show (n : Int) + 1 - 1 = n by omega]
      · rw [if_neg z, addB_snoc, if_pos rfl]
        refine ⟨bs, ?_, h2, by omega, fun q => by omega⟩
        rw [show (n : Int) + 1 - (l + 1) = n - l by omega, show (n : Int) + 1 - 1 = n by omega]
    · rw [if_neg hj, filt_out hj, h1]
      dsimp only
      rw [if_pos rfl]
      by_cases z : l = 0
      · rw [if_pos z]
        refine ⟨bs, rfl, ?_, Int.le_refl _, fun _ l' k e => ?_⟩
        · rw [z, h2]
          omega
        · have := h4 z l' k e
          omega
      · rw [if_neg z]
        refine ⟨_, (List.append_nil _).symm, ?_, Int.le_refl _, fun _ l' k e => ?_⟩
        · rw [List.map_append, List.sum_append, h2]
          show _ = _ + (((n : Int) - 1 - (n - l) + 2) / 2 + 0)
          rw [show (n : Int) - 1 - (n - l) + 2 = l + 1 by omega]
          omega
        · have e1 := (List.append_inj' e rfl).2
          injection e1 with e1 _
          rw [← e1]
          show (n : Int) - 1 < _
          omega
theorem borders_asc (ns ms : List Int) : (bordersL ns ms).Pairwise (· < ·) := by
  unfold bordersL
  refine List.Pairwise.filter _ ?_
  rw [List.pairwise_map]
  exact List.pairwise_lt_range.imp fun {a b} h => by omega
theorem cost_fold (ns ms : List Int) : cfold (bordersL ns ms) (ns.length + 2) = (costL ns ms, 0) := by
  obtain ⟨bs, h1, h2, h3, h4⟩ := cost_inv (borders_asc ns ms) (fun p hp => (borders_in_ hp).1) (ns.length + 2)
  have hout : ((ns.length + 1 : Nat) : Int) ∉ bordersL ns ms := fun h => by
    have := (borders_in_ h).2
    omega
  have z : (cfold (bordersL ns ms) (ns.length + 2)).2 = 0 := by
    rw [cfold_succ]
    unfold cstep
    rw [if_neg hout]
  have all : (bordersL ns ms).filter (fun p => decide (p < ((ns.length + 2 : Nat) : Int))) = bordersL ns ms := List.filter_eq_self.mpr fun p hp => by
    have := (borders_in_ hp).2
    simp
    omega
  rw [all, if_pos z, List.append_nil] at h1
  refine Prod.ext ?_ z
  rw [h2]
  unfold costL
  rw [h1]
end K27
set_option Elab.async false
set_option pp.maxSteps 1200
set_option linter.all false
set_option maxRecDepth 100000
set_option maxHeartbeats 4000000
namespace K27
open PySem L2 My
def sp__law_cost (K : PySem.W.Frag) : Sp := fun vs H Q _ => ∃ (a m : Addr) (ns ms : List Int), vs = [.ref a, .ref m] ∧ SqL K H a (ns.map V.int) ∧ SqL K H m (ms.map V.int) ∧ ns.length ≤ 500 ∧ Evl.RetV (.int (costL ns ms)) H Q
section
variable {w : World} {K : PySem.W.Frag} {mg : Str → Option Value} {base : Heap}
theorem ok__law_cost (T : Txt K mg) : FnOk PR w K mg base CX0 2 T.a__law_cost T.d__law_cost ["_law_there", "_law_marks"] (sp__law_cost K) := by
  refine T.f__law_cost.ok sc__law_cost (fun vs H Q E h => ?_) (fun cdv A outer s H vs Q E hr h => ?_)
  · obtain ⟨a, m, ns, ms, rfl, _⟩ := h
    rfl
  · obtain ⟨a, m, ns, ms, rfl, ha, hm, nl, k⟩ := h
    refine ⟨_, (pss_cons (ps_set (i := 2) sc__law_cost.nd rfl (by first | exact Or.inl rfl | exact Or.inr rfl) pe_int) (pss_cons (ps_set (i := 3) sc__law_cost.nd rfl (by first | exact Or.inl rfl | exact Or.inr rfl) pe_int) (pss_cons (ps_set (i := 4) sc__law_cost.nd rfl (by first | exact Or.inl rfl | exact Or.inr rfl) (pe_call (ok__law_borders T) (hr.mono (by decide)) (by rfl) T.g__law_borders T.f__law_borders.kp (b__law_borders T) .nil pass0 (pa_cons (pv 0) (pa_cons (pv 1) pa_nil)))) (pss_cons (ps_for PassesOwn.never rfl (pi_range1 (by rfl) T.z_range (pa_cons (pe_op op_add (pe_callB call_len_seq (by rfl) T.z_len PySem.boot_len (pa_cons (pv 0) pa_nil)) pe_int) pa_nil)) (pg_name (i := 5) sc__law_cost.nd rfl (by first | exact Or.inl rfl | exact Or.inr rfl)) (pss_one (ps_if (pt_cmpR op_in_seq (pv 5) (pv 4) (by rfl)) (pss_one (ps_set (i := 3) sc__law_cost.nd rfl (by first | exact Or.inl rfl | exact Or.inr rfl) (pe_op op_add (pv 3) pe_int))) (pss_cons (ps_set (i := 2) sc__law_cost.nd rfl (by first | exact Or.inl rfl | exact Or.inr rfl) (pe_op op_add (pv 2) (pe_op op_fdivW (pe_op op_add (pv 3) pe_int) pe_int))) (pss_one (ps_set (i := 3) sc__law_cost.nd rfl (by first | exact Or.inl rfl | exact Or.inr rfl) pe_int)))))) (pss_one (ps_ret (pv 2))))))), ?_⟩
    refine ⟨_, rfl, _, rfl, a, m, ns, ms, rfl, ha, hm, nl, fun t H1 nt e1 ht => ?_⟩
    refine ⟨_, rfl, _, _, rfl, .inl (Evl.ex_l e1 ha), _, _, rfl, rfl, _, rfl, (by rw [List.length_map]; omega), (by rw [List.length_map]; omega), ?_⟩
    rw [List.length_map]
    refine for_range (lo := 0) (n := (((ns.length : Nat) : Int) + 2).toNat) (fun i σ H' => ∃ v5, σ = [some (.ref a), some (.ref m), some (.int (cfold (bordersL ns ms) i).1), some (.int (cfold (bordersL ns ms) i).2), some (.ref t), v5] ∧ Ex H1 H') ⟨_, rfl, Evl.Ex.refl _⟩ ?_ ?_
    · rintro i σ H2 hi ⟨v5, rfl, e2⟩
      have ei : ((0 : Int) + (i : Int)) = ((i : Nat) : Int) := by omega
      rw [ei]
      refine ⟨_, rfl, _, rfl, _, _, rfl, .inl (sqI (e2 _ _ ht)), rfl, flatI _, _, rfl, ?_⟩
      rw [inV_int, cfold_succ]
      unfold cstep
      refine ifB (fun c => ?_) (fun c => ?_)
      · rw [if_pos (of_decide_eq_true c)]
        exact ⟨_, rfl, _, _, rfl, rfl, _, rfl, e2⟩
      · rw [if_neg (of_decide_eq_false c)]
        exact ⟨_, rfl, _, rfl, _, _, rfl, rfl, _, _, rfl, rfl, wide_div (b := 20) (by decide) (by decide) (by decide) (by decide), _, _, rfl, rfl, _, rfl, e2⟩
    · rintro σ H2 ⟨v5, rfl, e2⟩
      have en : (((ns.length : Nat) : Int) + 2).toNat = ns.length + 2 := by omega
      refine ⟨_, rfl, ?_⟩
      rw [en, cost_fold]
      exact k H2 (e1.trans e2)
end
end K27
set_option Elab.async false
set_option linter.all false
set_option maxRecDepth 100000
set_option maxHeartbeats 4000000
namespace K27
open PySem L2 My
/-! the breadth search by positions -/
/-- marks by flags, the anchor's position -/
abbrev Sc := List Bool × Option Nat
def movesC (n : Nat) : List (Bool × Nat) := (List.range n).map (fun p => (false, p)) ++ (List.range n).map fun p => (true, p)
def fillC (fl : List Bool) (a p : Nat) : List Bool := (List.range fl.length).map fun i => if min a p ≤ i ∧ i ≤ max a p then fl.getD a false else fl.getD i false
def stepC (st : Sc) (m : Bool × Nat) : Sc := if m.1 = true ∧ st.2.isSome = true then (fillC st.1 (st.2.getD 0) m.2, st.2) else (st.1.set m.2 (!st.1.getD m.2 false), some m.2)
abbrev Tb := List (List Bool × Int)
def getF (l : Tb) (k : List Bool) : Option Int := (l.find? fun p => decide (p.1 = k)).map (·.2)
def putF (l : Tb) (k : List Bool) (v : Int) : Tb := if (l.any fun p => decide (p.1 = k)) = true then l.map (fun p => if p.1 = k then (p.1, v) else p) else l ++ [(k, v)]
structure Bf where
  seen : List Sc
  later : List Sc
  found : Tb
def minC (a b : Int) : Int := if b < a then b else a
def turnC (number : Int) (st : Sc) (b : Bf) (m : Bool × Nat) : Bf :=
  let s := stepC st m
  if s ∈ b.seen then b else ⟨b.seen ++ [s], b.later ++ [s], putF b.found s.1 (minC number ((getF b.found s.1).getD number))⟩
def rowC (n : Nat) (number : Int) (b : Bf) (st : Sc) : Bf := (movesC n).foldl (turnC number st) b
def layerC (n : Nat) (number : Int) (b : Bf) : Bf := b.later.foldl (rowC n number) { b with later := [] }
def startC (n : Nat) (a : Option Nat) : Bf := ⟨[(List.replicate n false, a)], [(List.replicate n false, a)], [(List.replicate n false, 0)]⟩
def bfsC (n : Nat) (a : Option Nat) : Nat → Bf
  | 0 => startC n a
  | k + 1 => layerC n ((k : Int) + 1) (bfsC n a k)
/-- the cost told by flags -/
def flagsC (fl : List Bool) : List Bool := [false] ++ fl ++ [false]
def bordersC (fl : List Bool) : List Int := ((List.range (fl.length + 1)).map fun i => (0 : Int) + ((i : Nat) : Int)).filter fun p => !decide ((flagsC fl).getD p.toNat false = (flagsC fl).getD (p.toNat + 1) false)
def costC (fl : List Bool) : Int := ((blocksL (bordersC fl)).map costB).sum
theorem costL_C (ns ms : List Int) : costL ns ms = costC (ns.map fun r => decide (r ∈ ms)) := by
  unfold costL costC bordersL bordersC
  rw [List.length_map]
  rfl
def checkC (n : Nat) (a : Option Nat) : Bool := (bfsC n a (n + 2)).found.length == 2 ^ n && (bfsC n a (n + 2)).found.all fun p => p.1.length == n && decide (costC p.1 = p.2)
def checkAll : Bool := (List.range 5).all fun n => checkC n none && (List.range n).all fun a => checkC n (some a)
theorem checked : checkAll = true := by decide +kernel
theorem checked_at {n : Nat} (h : n ≤ 4) {a : Option Nat} (ha : ∀ p, a = some p → p < n) : checkC n a = true := by
  have c := checked
  unfold checkAll at c
  rw [List.all_eq_true] at c
  have := c n (List.mem_range.mpr (by omega))
  rw [Bool.and_eq_true, List.all_eq_true] at this
  cases a with
  | none => exact this.1
  | some p => exact this.2 p (List.mem_range.mpr (ha p rfl))
end K27
set_option Elab.async false
set_option pp.maxSteps 1200
set_option linter.all false
set_option maxRecDepth 100000
set_option maxHeartbeats 4000000
namespace K27
open PySem L2 My
/-! states by names and by positions -/
theorem span_mem {l : List Int} {a b : Nat} {r : Int} : r ∈ span l a b ↔ ∃ i, min a b ≤ i ∧ i ≤ max a b ∧ l[i]? = some r := by
  unfold span
  rw [List.mem_iff_getElem?]
  constructor
  · rintro ⟨j, hj⟩
    have jl : j < max a b + 1 - min a b := by
      have := (List.getElem?_eq_some_iff.mp hj).1
      rw [List.length_take] at this
      omega
    rw [List.getElem?_take_of_lt jl, List.getElem?_drop] at hj
    exact ⟨min a b + j, by omega, by omega, hj⟩
  · rintro ⟨i, h1, h2, h3⟩
    refine ⟨i - min a b, ?_⟩
    rw [List.getElem?_take_of_lt (by omega), List.getElem?_drop, show min a b + (i - min a b) = i by omega]
    exact h3
theorem inj_at {ns : List Int} (nd : ns.Nodup) {i j : Nat} {r : Int} (h1 : ns[i]? = some r) (h2 : ns[j]? = some r) : i = j := by
  obtain ⟨a, e1⟩ := List.getElem?_eq_some_iff.mp h1
  obtain ⟨b, e2⟩ := List.getElem?_eq_some_iff.mp h2
  exact nodup_inj nd a b (e1.trans e2.symm)
def srtM (ns : List Int) (fl : List Bool) : List Int := (((ns.zip fl).filter (·.2)).map (·.1)).mergeSort fun a b => decide (a ≤ b)
theorem srt_mem {ns : List Int} {fl : List Bool} {r : Int} : r ∈ srtM ns fl ↔ ∃ i : Nat, ns[i]? = some r ∧ fl[i]? = some true := by
  unfold srtM
  rw [(List.mergeSort_perm _ _).mem_iff, List.mem_map]
  constructor
  · rintro ⟨⟨x, b⟩, hm, rfl⟩
    obtain ⟨h1, h2⟩ := List.mem_filter.mp hm
    obtain ⟨i, hi⟩ := List.mem_iff_getElem?.mp h1
    obtain ⟨e1, e2⟩ := List.getElem?_zip_eq_some.mp hi
    exact ⟨i, e1, by rw [e2]; exact congrArg some h2⟩
  · rintro ⟨i, h1, h2⟩
    exact ⟨(r, true), List.mem_filter.mpr ⟨List.mem_iff_getElem?.mpr ⟨i, List.getElem?_zip_eq_some.mpr ⟨h1, h2⟩⟩, rfl⟩, rfl⟩
theorem srt_asc {ns : List Int} {fl : List Bool} (nd : ns.Nodup) (hl : fl.length = ns.length) : (srtM ns fl).Pairwise (· < ·) := by
  refine asc_of (List.mergeSort_perm _ _) ?_ ?_
  · exact (List.pairwise_mergeSort (le := fun a b : Int => decide (a ≤ b)) (fun a b c h1 h2 => by simp at h1 h2 ⊢; omega) (fun a b => by simp; omega) _).imp fun {a b} h => by simpa using h
  · refine List.Nodup.sublist (List.Sublist.map _ List.filter_sublist) ?_
    rw [List.map_fst_zip (by omega)]
    exact nd
theorem srt_sub {ns : List Int} {fl : List Bool} {r : Int} (h : r ∈ srtM ns fl) : r ∈ ns := by
  obtain ⟨i, h1, _⟩ := srt_mem.mp h
  exact List.mem_of_getElem? h1
theorem srt_at {ns : List Int} {fl : List Bool} (nd : ns.Nodup) (hl : fl.length = ns.length) {i : Nat} {r : Int} (h : ns[i]? = some r) : r ∈ srtM ns fl ↔ fl.getD i false = true := by
  have hi : i < fl.length := by rw [hl]; exact (List.getElem?_eq_some_iff.mp h).1
  rw [srt_mem, List.getD_eq_getElem?_getD, List.getElem?_eq_getElem hi]
  constructor
  · rintro ⟨j, h1, h2⟩
    obtain rfl := inj_at nd h h1
    rw [List.getElem?_eq_getElem hi] at h2
    exact Option.some.inj h2
  · intro e
    exact ⟨i, h, by rw [List.getElem?_eq_getElem hi]; exact congrArg some e⟩
theorem srt_len {ns : List Int} {fl : List Bool} (nd : ns.Nodup) (hl : fl.length = ns.length) : (srtM ns fl).length ≤ ns.length := nodup_len (pw_nodup (srt_asc nd hl)) fun r hr => srt_sub hr
theorem flag_ext {f g : List Bool} {n : Nat} (hf : f.length = n) (hg : g.length = n) (h : ∀ i, i < n → f.getD i false = g.getD i false) : f = g := by
  refine List.ext_getElem (hf.trans hg.symm) fun i h1 h2 => ?_
  have := h i (by omega)
  rw [List.getD_eq_getElem?_getD, List.getD_eq_getElem?_getD, List.getElem?_eq_getElem h1, List.getElem?_eq_getElem h2] at this
  exact this
theorem srt_inj {ns : List Int} (nd : ns.Nodup) {f g : List Bool} (hf : f.length = ns.length) (hg : g.length = ns.length) (e : srtM ns f = srtM ns g) : f = g := by
  refine flag_ext hf hg fun i hi => ?_
  have hr : ns[i]? = some ns[i] := List.getElem?_eq_getElem hi
  have := srt_at nd hf hr
  rw [e, srt_at nd hg hr] at this
  rw [Bool.eq_iff_iff]
  exact this.symm
def valA (ns : List Int) (a : Option Nat) : Option Int := a.map fun p => ns.getD p 0
structure VS (n : Nat) (st : Sc) : Prop where
  len : st.1.length = n
  anc : ∀ p, st.2 = some p → p < n
theorem get_row {ns : List Int} {p : Nat} (h : p < ns.length) : ns[p]? = some (ns.getD p 0) := by
  rw [List.getD_eq_getElem?_getD, List.getElem?_eq_getElem h]
  rfl
theorem set_getD {f : List Bool} {p i : Nat} {b : Bool} (h : p < f.length) : (f.set p b).getD i false = if i = p then b else f.getD i false := by
  rw [List.getD_eq_getElem?_getD, List.getElem?_set]
  by_cases e : p = i
  · subst e
    rw [if_pos rfl, if_pos h, if_pos rfl]
    rfl
  · rw [if_neg e, if_neg (fun z => e z.symm), List.getD_eq_getElem?_getD]
theorem fill_getD {f : List Bool} {a p i : Nat} (h : i < f.length) : (fillC f a p).getD i false = if min a p ≤ i ∧ i ≤ max a p then f.getD a false else f.getD i false := by
  unfold fillC
  rw [List.getD_eq_getElem?_getD, List.getElem?_map, List.getElem?_range h]
  rfl
def wordC (b : Bool) : Str := if b = true then "range" else "click"
theorem step_rel {ns : List Int} (nd : ns.Nodup) {st : Sc} (v : VS ns.length st) {b : Bool} {p : Nat} (hp : p < ns.length) :
    VS ns.length (stepC st (b, p)) ∧ (done ns (srtM ns st.1) (valA ns st.2) [(wordC b, (p : Int))]).2 = valA ns (stepC st (b, p)).2 ∧ ∀ i r, ns[i]? = some r → (done ns (srtM ns st.1) (valA ns st.2) [(wordC b, (p : Int))]).1 r = (stepC st (b, p)).1.getD i false := by
  obtain ⟨f, a⟩ := st
  have hl : f.length = ns.length := v.len
  have flag : ∀ {i r}, ns[i]? = some r → decide (r ∈ srtM ns f) = f.getD i false := fun {i r} h => by
    rw [Bool.eq_iff_iff, decide_eq_true_iff]
    exact srt_at nd hl h
  have click : rng ns (wordC b) (valA ns a) = none → stepC (f, a) (b, p) = (f.set p (!f.getD p false), some p) → VS ns.length (stepC (f, a) (b, p)) ∧ (done ns (srtM ns f) (valA ns a) [(wordC b, (p : Int))]).2 = valA ns (stepC (f, a) (b, p)).2 ∧ ∀ i r, ns[i]? = some r → (done ns (srtM ns f) (valA ns a) [(wordC b, (p : Int))]).1 r = (stepC (f, a) (b, p)).1.getD i false := fun h e => by
    have ed : done ns (srtM ns f) (valA ns a) [(wordC b, (p : Int))] = (fun r => if r = rowAt ns p then !decide (r ∈ srtM ns f) else decide (r ∈ srtM ns f), some (rowAt ns p)) := step_cl h
    rw [ed, e]
    refine ⟨⟨by show (f.set _ _).length = _; rw [List.length_set]; exact hl, fun q hq => by cases hq; exact hp⟩, rfl, fun i r hr => ?_⟩
    have er : (r = rowAt ns (p : Int)) ↔ i = p := by
      constructor
      · intro z
        exact inj_at nd hr (by rw [z]; exact get_row hp)
      · intro z
        have := get_row hp
        rw [← z, hr] at this
        rw [Option.some.inj this, z]
        rfl
    show (if r = rowAt ns (p : Int) then _ else _) = _
    rw [set_getD (by omega), flag hr]
    by_cases z : i = p
    · rw [if_pos (er.mpr z), if_pos z, z]
    · rw [if_neg (fun y => z (er.mp y)), if_neg z]
  cases b with
  | false =>
    refine click ?_ ?_
    · unfold rng
      cases valA ns a with
      | none => rfl
      | some n => exact if_neg (fun z => absurd z.1 (by decide))
    · unfold stepC
      rw [if_neg (fun z => Bool.noConfusion z.1)]
  | true =>
    cases a with
    | none =>
      refine click rfl ?_
      unfold stepC
      rw [if_neg (fun z => Bool.noConfusion z.2)]
    | some q =>
      have hq : q < ns.length := v.anc q rfl
      have gq := get_row hq
      have hm : ns.getD q 0 ∈ ns := List.mem_of_getElem? gq
      have hr : rng ns (wordC true) (valA ns (some q)) = some (ns.getD q 0) := by
        show (if wordC true = "range" ∧ ns.getD q 0 ∈ ns then some (ns.getD q 0) else none) = _
        rw [if_pos ⟨rfl, hm⟩]
      have e : stepC (f, some q) (true, p) = (fillC f q p, some q) := by
        unfold stepC
        rw [if_pos ⟨rfl, rfl⟩]
        rfl
      have ed : done ns (srtM ns f) (valA ns (some q)) [(wordC true, (p : Int))] = (fun r => if r ∈ span ns (ns.idxOf (ns.getD q 0)) p then decide (ns.getD q 0 ∈ srtM ns f) else decide (r ∈ srtM ns f), valA ns (some q)) := step_rng hr
      rw [ed, e, idx_of nd gq]
      refine ⟨⟨by show (fillC f q p).length = _; unfold fillC; rw [List.length_map, List.length_range]; exact hl, fun q' hq' => by cases hq'; exact hq⟩, rfl, fun i r hir => ?_⟩
      have hi : i < f.length := by rw [hl]; exact (List.getElem?_eq_some_iff.mp hir).1
      have er : r ∈ span ns q p ↔ min q p ≤ i ∧ i ≤ max q p := by
        rw [span_mem]
        constructor
        · rintro ⟨j, h1, h2, h3⟩
          obtain rfl := inj_at nd hir h3
          exact ⟨h1, h2⟩
        · rintro ⟨h1, h2⟩
          exact ⟨i, h1, h2, hir⟩
      show (if r ∈ span ns q p then _ else _) = _
      rw [fill_getD hi, flag gq, flag hir]
      by_cases z : min q p ≤ i ∧ i ≤ max q p
      · rw [if_pos (er.mpr z), if_pos z]
      · rw [if_neg (fun y => z (er.mp y)), if_neg z]
theorem rs_srt {ns : List Int} (nd : ns.Nodup) {st : Sc} (v : VS ns.length st) {b : Bool} {p : Nat} (hp : p < ns.length) {rs : List Int} (pw : rs.Pairwise (· < ·)) (hi : ∀ r, r ∈ rs ↔ (done ns (srtM ns st.1) (valA ns st.2) [(wordC b, (p : Int))]).1 r = true) (hs : ∀ r ∈ rs, r ∈ srtM ns st.1 ++ ns) : rs = srtM ns (stepC st (b, p)).1 := by
  obtain ⟨v', _, h⟩ := step_rel nd v (b := b) hp
  have inns : ∀ r ∈ rs, r ∈ ns := fun r hr => (List.mem_append.mp (hs r hr)).elim srt_sub id
  refine asc_unique pw (srt_asc nd v'.len) fun r => ?_
  constructor
  · intro hr
    obtain ⟨i, hir⟩ := List.mem_iff_getElem?.mp (inns r hr)
    rw [srt_at nd v'.len hir, ← h i r hir]
    exact (hi r).mp hr
  · intro hr
    obtain ⟨i, hir⟩ := List.mem_iff_getElem?.mp (srt_sub hr)
    rw [hi, h i r hir]
    exact (srt_at nd v'.len hir).mp hr
end K27
set_option Elab.async false
set_option pp.maxSteps 1200
set_option linter.all false
set_option maxRecDepth 100000
set_option maxHeartbeats 4000000
namespace K27
open PySem L2 My
theorem st_eq {σ σ' : L2.St} {P : L2.St → Prop} (h : σ = σ') (p : P σ') : P σ := h ▸ p
/-! states as keys -/
def keyM (ns : List Int) (fl : List Bool) : NestedKey := .tup ((srtM ns fl).map NestedKey.num)
def keyA : Option Int → NestedKey
  | none => .none
  | some n => .num n
def keyS (ns : List Int) (st : Sc) : NestedKey := .tup [keyM ns st.1, keyA (valA ns st.2)]
theorem nums_inj : ∀ {a b : List Int}, a.map NestedKey.num = b.map NestedKey.num → a = b
  | [], [], _ => rfl
  | [], _ :: _, e => by simp at e
  | _ :: _, [], e => by simp at e
  | x :: xs, y :: ys, e => by
    rw [List.map_cons, List.map_cons] at e
    injection e with e1 e2
    injection e1 with e1
    rw [e1, nums_inj e2]
theorem keyM_inj {ns : List Int} (nd : ns.Nodup) {f g : List Bool} (hf : f.length = ns.length) (hg : g.length = ns.length) (e : keyM ns f = keyM ns g) : f = g := by
  unfold keyM at e
  injection e with e
  exact srt_inj nd hf hg (nums_inj e)
theorem valA_inj {ns : List Int} (nd : ns.Nodup) {a b : Option Nat} (ha : ∀ p, a = some p → p < ns.length) (hb : ∀ p, b = some p → p < ns.length) (e : keyA (valA ns a) = keyA (valA ns b)) : a = b := by
  cases a with
  | none =>
    cases b with
    | none => rfl
    | some q => exact absurd e (fun z => NestedKey.noConfusion z)
  | some p =>
    cases b with
    | none => exact absurd e (fun z => NestedKey.noConfusion z)
    | some q =>
      have e : NestedKey.num (ns.getD p 0) = NestedKey.num (ns.getD q 0) := e
      injection e with e
      have h1 := get_row (ha p rfl)
      have h2 := get_row (hb q rfl)
      rw [e] at h1
      rw [inj_at nd h1 h2]
theorem keyS_inj {ns : List Int} (nd : ns.Nodup) {s t : Sc} (hs : VS ns.length s) (ht : VS ns.length t) (e : keyS ns s = keyS ns t) : s = t := by
  unfold keyS at e
  injection e with e
  injection e with e1 e2
  injection e2 with e2 _
  exact Prod.ext (keyM_inj nd hs.len ht.len e1) (valA_inj nd hs.anc ht.anc e2)
theorem nums_depth : ∀ l : List Int, NestedKey.depthAll (l.map NestedKey.num) = 0
  | [] => rfl
  | x :: l => by
    show max 0 (NestedKey.depthAll (l.map NestedKey.num)) = 0
    rw [nums_depth l]
    rfl
theorem keyM_depth (ns : List Int) (fl : List Bool) : (keyM ns fl).depth = 1 := by
  show NestedKey.depthAll _ + 1 = 1
  rw [nums_depth]
theorem keyS_depth (ns : List Int) (st : Sc) : (keyS ns st).depth ≤ 8 := by
  show max (keyM ns st.1).depth (max (keyA (valA ns st.2)).depth 0) + 1 ≤ 8
  rw [keyM_depth]
  have : (keyA (valA ns st.2)).depth = 0 := by
    cases valA ns st.2 <;> rfl
  rw [this]
  decide
def kvS (ns : List Int) (l : List Sc) : List (NestedKey × V) := l.map fun s => (keyS ns s, V.bl true)
def kvF (ns : List Int) (l : Tb) : List (NestedKey × V) := l.map fun p => (keyM ns p.1, V.int p.2)
theorem valV_kvS {ns : List Int} (nd : ns.Nodup) {s : Sc} (hs : VS ns.length s) : ∀ {l : List Sc}, (∀ t ∈ l, VS ns.length t) → (valV (kvS ns l) (keyS ns s)).isSome = decide (s ∈ l)
  | [], _ => rfl
  | t :: l, h => by
    unfold kvS
    rw [List.map_cons]
    by_cases e : t = s
    · rw [valV_pos (p := (keyS ns t, V.bl true)) (by rw [e]), decide_eq_true (by rw [e]; exact List.mem_cons_self)]
      rfl
    · have ne : ¬ keyS ns t = keyS ns s := fun z => e (keyS_inj nd (h t List.mem_cons_self) hs z)
      rw [valV_neg (p := (keyS ns t, V.bl true)) ne]
      have ih := valV_kvS nd hs (l := l) fun u hu => h u (List.mem_cons_of_mem _ hu)
      unfold kvS at ih
      rw [ih, decide_eq_decide]
      constructor
      · exact fun z => List.mem_cons_of_mem _ z
      · exact fun z => (List.mem_cons.mp z).resolve_left fun y => e y.symm
theorem putK_kvS {ns : List Int} {s : Sc} {l : List Sc} (h : valV (kvS ns l) (keyS ns s) = none) : putK (kvS ns l) (keyS ns s) (.bl true) = kvS ns (l ++ [s]) := by
  rw [putK_new _ h]
  unfold kvS
  rw [List.map_append]
  rfl
theorem valV_kvF {ns : List Int} (nd : ns.Nodup) {f : List Bool} (hf : f.length = ns.length) : ∀ {l : Tb}, (∀ p ∈ l, p.1.length = ns.length) → valV (kvF ns l) (keyM ns f) = (getF l f).map V.int
  | [], _ => rfl
  | p :: l, h => by
    unfold kvF getF
    rw [List.map_cons]
    by_cases e : p.1 = f
    · rw [valV_pos (p := (keyM ns p.1, V.int p.2)) (by rw [e]), List.find?_cons_of_pos (by simp [e])]
      rfl
    · have ne : ¬ keyM ns p.1 = keyM ns f := fun z => e (keyM_inj nd (h p List.mem_cons_self) hf z)
      rw [valV_neg (p := (keyM ns p.1, V.int p.2)) ne, List.find?_cons_of_neg (by simp [e])]
      exact valV_kvF nd hf (l := l) fun u hu => h u (List.mem_cons_of_mem _ hu)
theorem any_kvF {ns : List Int} (nd : ns.Nodup) {f : List Bool} (hf : f.length = ns.length) {l : Tb} (h : ∀ p ∈ l, p.1.length = ns.length) : ((kvF ns l).any fun kv => decide (kv.1 = keyM ns f)) = l.any fun p => decide (p.1 = f) := by
  unfold kvF
  rw [List.any_map]
  refine Bool.eq_iff_iff.mpr ?_
  rw [List.any_eq_true, List.any_eq_true]
  constructor
  · rintro ⟨p, hp, e⟩
    refine ⟨p, hp, ?_⟩
    have e : keyM ns p.1 = keyM ns f := of_decide_eq_true e
    exact decide_eq_true (keyM_inj nd (h p hp) hf e)
  · rintro ⟨p, hp, e⟩
    refine ⟨p, hp, ?_⟩
    have e : p.1 = f := of_decide_eq_true e
    show decide (keyM ns p.1 = keyM ns f) = true
    rw [e]
    exact decide_eq_true rfl
theorem putK_kvF {ns : List Int} (nd : ns.Nodup) {f : List Bool} (hf : f.length = ns.length) {l : Tb} (h : ∀ p ∈ l, p.1.length = ns.length) (v : Int) : putK (kvF ns l) (keyM ns f) (.int v) = kvF ns (putF l f v) := by
  unfold putK putF
  rw [any_kvF nd hf h]
  by_cases q : (l.any fun p => decide (p.1 = f)) = true
  · rw [if_pos q, if_pos q]
    unfold kvF
    rw [List.map_map, List.map_map]
    refine List.map_congr_left fun p hp => ?_
    show (if keyM ns p.1 = keyM ns f then (keyM ns p.1, V.int v) else (keyM ns p.1, V.int p.2)) = (fun q : List Bool × Int => (keyM ns q.1, V.int q.2)) (if p.1 = f then (p.1, v) else p)
    by_cases e : p.1 = f
    · rw [if_pos (by rw [e]), if_pos e]
    · rw [if_neg (fun z => e (keyM_inj nd (h p hp) hf z)), if_neg e]
  · rw [if_neg q, if_neg q]
    unfold kvF
    rw [List.map_append]
    rfl
theorem putF_len (l : Tb) (f : List Bool) (v : Int) : (putF l f v).length ≤ l.length + 1 := by
  unfold putF
  split
  · rw [List.length_map]
    omega
  · rw [List.length_append]
    exact Nat.le_refl _
theorem putF_vs {n : Nat} {l : Tb} {f : List Bool} {v : Int} (h : ∀ p ∈ l, p.1.length = n) (hf : f.length = n) : ∀ p ∈ putF l f v, p.1.length = n := by
  unfold putF
  split
  · intro p hp
    obtain ⟨q, hq, rfl⟩ := List.mem_map.mp hp
    by_cases e : q.1 = f
    · rw [if_pos e]
      exact h q hq
    · rw [if_neg e]
      exact h q hq
  · intro p hp
    rcases List.mem_append.mp hp with z | z
    · exact h p z
    · rw [List.mem_singleton.mp z]
      exact hf
theorem _root_.My.NIs.up' {β : Bool} {K : PySem.W.Frag} {H : Hp} {k : NestedKey} {v : V} (h : NIs β K H k v) : NIs true K H k v := NIs.up k v h
/-! states in the heap -/
def StR (K : PySem.W.Frag) (ns : List Int) (H : Hp) (v : V) (st : Sc) : Prop := ∃ q r, v = .ref q ∧ SqT K H q [.ref r, anV (valA ns st.2)] ∧ SqT K H r ((srtM ns st.1).map V.int)
theorem nis_an {K : PySem.W.Frag} {H : Hp} (an : Option Int) : NIs false K H (keyA an) (anV an) := by
  cases an with
  | none => exact .none
  | some n => exact .num n
theorem nis_m {K : PySem.W.Frag} {H : Hp} {ns : List Int} {fl : List Bool} {r : Addr} (h : SqT K H r ((srtM ns fl).map V.int)) : NIs false K H (keyM ns fl) (.ref r) := .tup h (NAll.ints _)
theorem nis_s {K : PySem.W.Frag} {H : Hp} {ns : List Int} {st : Sc} {q r : Addr} (h1 : SqT K H q [.ref r, anV (valA ns st.2)]) (h2 : SqT K H r ((srtM ns st.1).map V.int)) : NIs false K H (keyS ns st) (.ref q) := .tup h1 (.cons (nis_m h2) (.cons (nis_an _) .nil))
theorem StR.keep {K : PySem.W.Frag} {ns : List Int} {H H' : Hp} {j : Addr} {v : V} {st : Sc} (e : Exj j H H') (n : NTup H j) : StR K ns H v st → StR K ns H' v st
  | ⟨q, r, h1, h2, h3⟩ => ⟨q, r, h1, sqT_keep e n h2, sqT_keep e n h3⟩
theorem StR.ex {K : PySem.W.Frag} {ns : List Int} {H H' : Hp} {v : V} {st : Sc} (e : Ex H H') : StR K ns H v st → StR K ns H' v st
  | ⟨q, r, h1, h2, h3⟩ => ⟨q, r, h1, sqT_exN e h2, sqT_exN e h3⟩
def MvR (K : PySem.W.Frag) (H : Hp) (v : V) (m : Bool × Nat) : Prop := ∃ q, v = .ref q ∧ SqT K H q [.str (wordC m.1), .int (m.2 : Nat)]
theorem MvR.keep {K : PySem.W.Frag} {H H' : Hp} {j : Addr} {v : V} {m : Bool × Nat} (e : Exj j H H') (n : NTup H j) : MvR K H v m → MvR K H' v m
  | ⟨q, h1, h2⟩ => ⟨q, h1, sqT_keep e n h2⟩
theorem MvR.ex {K : PySem.W.Frag} {H H' : Hp} {v : V} {m : Bool × Nat} (e : Ex H H') : MvR K H v m → MvR K H' v m
  | ⟨q, h1, h2⟩ => ⟨q, h1, sqT_exN e h2⟩
/-- what stands while the search goes: the dict of states at S, of costs at F, the next layer at L -/
structure FI (K : PySem.W.Frag) (w : World) (S F L : Addr) (ns : List Int) (H' : Hp) (B : Nat) (b : Bf) : Prop where
  s : IsDN false K w H' S (kvS ns b.seen)
  f : IsDN false K w H' F (kvF ns b.found)
  l : ∃ us, H' L = some (.lst us) ∧ AllR (StR K ns H') us b.later
  vs : ∀ t ∈ b.seen, VS ns.length t
  vl : ∀ t ∈ b.later, VS ns.length t
  vf : ∀ p ∈ b.found, p.1.length = ns.length
  n1 : b.seen.length ≤ B
  n2 : b.later.length ≤ B
  n3 : b.found.length ≤ B
theorem FI.ex {K : PySem.W.Frag} {w : World} {S F L : Addr} {ns : List Int} {H H' : Hp} {B : Nat} {b : Bf} (e : Ex H H') (h : FI K w S F L ns H B b) : FI K w S F L ns H' B b := by
  obtain ⟨us, h1, h2⟩ := h.l
  exact ⟨h.s.ex e, h.f.ex e, ⟨us, e _ _ h1, h2.mono fun v t r => r.ex e⟩, h.vs, h.vl, h.vf, h.n1, h.n2, h.n3⟩
theorem FI.mono {K : PySem.W.Frag} {w : World} {S F L : Addr} {ns : List Int} {H : Hp} {B B' : Nat} {b : Bf} (e : B ≤ B') (h : FI K w S F L ns H B b) : FI K w S F L ns H B' b :=
  ⟨h.s, h.f, h.l, h.vs, h.vl, h.vf, Nat.le_trans h.n1 e, Nat.le_trans h.n2 e, Nat.le_trans h.n3 e⟩
end K27
set_option Elab.async false
set_option pp.maxSteps 1200
set_option linter.all false
set_option maxRecDepth 100000
set_option maxHeartbeats 4000000
namespace K27
open PySem L2 My
def sp__law_fewest (K : PySem.W.Frag) (w : World) : Sp := fun vs H Q _ => ∃ (a : Addr) (ns : List Int) (ap : Option Nat), vs = [.ref a, anV (valA ns ap)] ∧ SqL K H a (ns.map V.int) ∧ ns.Nodup ∧ ns.length ≤ 4 ∧ (∀ p, ap = some p → p < ns.length) ∧
  ∀ d H', H d = none → Ex H H' → IsDN false K w H' d (kvF ns (bfsC ns.length ap (ns.length + 2)).found) → Q (.ref d) H'
theorem exj_of {j : Addr} {H H1 H2 : Hp} (e : Ex H H1) (n : H j = none) (e2 : Exj j H1 H2) : Ex H H2 := fun b o h => e2 b o (ne_of_none h n) (e b o h)
/-- the moves at M, the layer at Y -/
structure BG (K : PySem.W.Frag) (M Y : Addr) (ns : List Int) (H' : Hp) (mu us : List V) (ly : List Sc) : Prop where
  m : H' M = some (.lst mu)
  mr : AllR (MvR K H') mu (movesC ns.length)
  y : H' Y = some (.lst us)
  yr : AllR (StR K ns H') us ly
theorem BG.ex {K : PySem.W.Frag} {M Y : Addr} {ns : List Int} {H H' : Hp} {mu us : List V} {ly : List Sc} (e : Ex H H') (h : BG K M Y ns H mu us ly) : BG K M Y ns H' mu us ly := ⟨e _ _ h.m, h.mr.mono fun v m r => r.ex e, e _ _ h.y, h.yr.mono fun v m r => r.ex e⟩
theorem BG.keep {K : PySem.W.Frag} {M Y j : Addr} {ns : List Int} {H H' : Hp} {mu us : List V} {ly : List Sc} (e : Exj j H H') (n : NTup H j) (h1 : M ≠ j) (h2 : Y ≠ j) (h : BG K M Y ns H mu us ly) : BG K M Y ns H' mu us ly := ⟨e _ _ h1 h.m, h.mr.mono fun v m r => r.keep e n, e _ _ h2 h.y, h.yr.mono fun v m r => r.keep e n⟩
theorem moves_len (n : Nat) : (movesC n).length = 2 * n := by
  unfold movesC
  rw [List.length_append, List.length_map, List.length_map, List.length_range]
  omega
theorem moves_at {n i : Nat} {m : Bool × Nat} (h : (movesC n)[i]? = some m) : m.2 < n := by
  have := List.mem_of_getElem? h
  unfold movesC at this
  rcases List.mem_append.mp this with z | z
  · obtain ⟨p, hp, rfl⟩ := List.mem_map.mp z
    exact List.mem_range.mp hp
  · obtain ⟨p, hp, rfl⟩ := List.mem_map.mp z
    exact List.mem_range.mp hp
theorem getD_int (o : Option Int) (n : Int) : (o.map V.int).getD (.int n) = .int (o.getD n) := by cases o <;> rfl
section
variable {w : World} {K : PySem.W.Frag} {mg : Str → Option Value} {base : Heap}
theorem ok__law_fewest (T : Txt K mg) : FnOk PR w K mg base CX0 2 T.a__law_fewest T.d__law_fewest ["_law_there", "_law_anchor"] (sp__law_fewest K w) := by
  refine T.f__law_fewest.ok sc__law_fewest (fun vs H Q E h => ?_) (fun cdv A0 outer s H vs Q E hr h => ?_)
  · obtain ⟨a, ns, ap, rfl, _⟩ := h
    rfl
  · obtain ⟨a, ns, ap, rfl, ha, nd, nl, hap, k⟩ := h
    refine ⟨_, (pss_cons (ps_set (i := 2) sc__law_fewest.nd rfl (by first | exact Or.inl rfl | exact Or.inr rfl) (pe_op op_catG (pe_lc (own := [("_law_place", 13)]) (g := gName 13) (by rfl) sc__law_fewest.nd (pi_range1 (by rfl) T.z_range (pa_cons (pe_callB call_len_seq (by rfl) T.z_len PySem.boot_len (pa_cons (pv 0) pa_nil)) pa_nil)) (blkOk_by (own := [("_law_place", 13)]) (N := ["_law_there", "_law_anchor", "_law_moves", "_law_layer", "_law_seen", "_law_found", "_law_number", "_law_later", "_law_marks", "_law_own", "_law_move", "_law_behind", "_law_state", "_law_place"]) (sc := (defScope s__law_fewest)) (by decide +kernel)) (fun _ _ _ _ _ => (pg_name (i := 13) sc__law_fewest.nd rfl (by first | exact Or.inl rfl | exact Or.inr rfl))) (fun _ _ _ _ _ => pts_nil) (fun _ _ _ _ _ => (pe_tupG (pa_cons pe_str (pa_cons (pv 13) pa_nil))))) (pe_lc (own := [("_law_place", 13)]) (g := gName 13) (by rfl) sc__law_fewest.nd (pi_range1 (by rfl) T.z_range (pa_cons (pe_callB call_len_seq (by rfl) T.z_len PySem.boot_len (pa_cons (pv 0) pa_nil)) pa_nil)) (blkOk_by (own := [("_law_place", 13)]) (N := ["_law_there", "_law_anchor", "_law_moves", "_law_layer", "_law_seen", "_law_found", "_law_number", "_law_later", "_law_marks", "_law_own", "_law_move", "_law_behind", "_law_state", "_law_place"]) (sc := (defScope s__law_fewest)) (by decide +kernel)) (fun _ _ _ _ _ => (pg_name (i := 13) sc__law_fewest.nd rfl (by first | exact Or.inl rfl | exact Or.inr rfl))) (fun _ _ _ _ _ => pts_nil) (fun _ _ _ _ _ => (pe_tupG (pa_cons pe_str (pa_cons (pv 13) pa_nil))))))) (pss_cons (ps_set (i := 3) sc__law_fewest.nd rfl (by first | exact Or.inl rfl | exact Or.inr rfl) (pe_lstG (pa_cons (pe_tupG (pa_cons (pe_tupG pa_nil) (pa_cons (pv 1) pa_nil))) pa_nil))) (pss_cons (ps_set (i := 4) sc__law_fewest.nd rfl (by first | exact Or.inl rfl | exact Or.inr rfl) (pe_callTy (call_dictN rfl hr.units) (by rfl) T.z_dict (by decide +kernel) (pa_cons (pe_lc (own := [("_law_state", 12)]) (g := gName 12) (by rfl) sc__law_fewest.nd (pi_list (pv 3)) (blkOk_by (own := [("_law_state", 12)]) (N := ["_law_there", "_law_anchor", "_law_moves", "_law_layer", "_law_seen", "_law_found", "_law_number", "_law_later", "_law_marks", "_law_own", "_law_move", "_law_behind", "_law_state", "_law_place"]) (sc := (defScope s__law_fewest)) (by decide +kernel)) (fun _ _ _ _ _ => (pg_name (i := 12) sc__law_fewest.nd rfl (by first | exact Or.inl rfl | exact Or.inr rfl))) (fun _ _ _ _ _ => pts_nil) (fun _ _ _ _ _ => (pe_tupG (pa_cons (pv 12) (pa_cons pe_bl pa_nil))))) pa_nil))) (pss_cons (ps_set (i := 5) sc__law_fewest.nd rfl (by first | exact Or.inl rfl | exact Or.inr rfl) (pe_ndisp1 hr.units (pe_tupG pa_nil) pe_int)) (pss_cons (ps_for PassesOwn.never rfl (pi_range2 (by rfl) T.z_range (pa_cons pe_int (pa_cons (pe_op op_add (pe_callB call_len_seq (by rfl) T.z_len PySem.boot_len (pa_cons (pv 0) pa_nil)) pe_int) pa_nil))) (pg_name (i := 6) sc__law_fewest.nd rfl (by first | exact Or.inl rfl | exact Or.inr rfl)) (pss_cons (ps_set (i := 7) sc__law_fewest.nd rfl (by first | exact Or.inl rfl | exact Or.inr rfl) (pe_lstG pa_nil)) (pss_cons (ps_for PassesOwn.never rfl (pi_list (pv 3)) (pg_tup rfl (pgs_cons (pg_name (i := 8) sc__law_fewest.nd rfl (by first | exact Or.inl rfl | exact Or.inr rfl)) (pgs_cons (pg_name (i := 9) sc__law_fewest.nd rfl (by first | exact Or.inl rfl | exact Or.inr rfl)) pgs_nil))) (pss_one (ps_for PassesOwn.never rfl (pi_list (pv 2)) (pg_name (i := 10) sc__law_fewest.nd rfl (by first | exact Or.inl rfl | exact Or.inr rfl)) (pss_cons (ps_set (i := 11) sc__law_fewest.nd rfl (by first | exact Or.inl rfl | exact Or.inr rfl) (pe_call (ok__law_done T) (hr.mono (by decide)) (by rfl) T.g__law_done T.f__law_done.kp (b__law_done T) .nil pass0 (pa_cons (pv 0) (pa_cons (pe_callTy call_listG (by rfl) T.z_list (by decide +kernel) (pa_cons (pv 8) pa_nil)) (pa_cons (pv 9) (pa_cons (pe_lstG (pa_cons (pv 10) pa_nil)) pa_nil)))))) (pss_cons (ps_set (i := 12) sc__law_fewest.nd rfl (by first | exact Or.inl rfl | exact Or.inr rfl) (pe_tupG (pa_cons (pe_callTy call_tupleG (by rfl) T.z_tuple (by decide +kernel) (pa_cons (pe_ix ix_tup (pv 11) pe_int (fun _ _ => rfl)) pa_nil)) (pa_cons (pe_ix ix_tup (pv 11) pe_int (fun _ _ => rfl)) pa_nil)))) (pss_one (ps_if (pt_cmp (pc_nnotin hr.units (pv 12) (pv 4))) (pss_cons (ps_nput hr.units (pv 4) (pv 12) pe_bl rfl) (pss_cons (ps_expr (pe_bm PySem.F.plainAttrs_list PySem.F.slot_list_append PySem.F.type_list_append mt_append (pv 7) (pa_cons (pv 12) pa_nil))) (pss_one (ps_nput hr.units (pv 5) (pe_ix ix_tup (pv 12) pe_int (fun _ _ => rfl)) (pe_callB (call_min2 rfl) (by rfl) T.z_min (by decide +kernel) (pa_cons (pv 6) (pa_cons (pe_nget2 hr.units (pv 5) (pe_ix ix_tup (pv 12) pe_int (fun _ _ => rfl)) (pv 6) ⟨rfl, rfl, rfl, rfl⟩) pa_nil))) rfl)))) pss_nil))))))) (pss_one (ps_set (i := 3) sc__law_fewest.nd rfl (by first | exact Or.inl rfl | exact Or.inr rfl) (pv 7)))))) (pss_one (ps_ret (pv 5)))))))), ?_⟩
    -- moves
    refine ⟨_, rfl, _, _, rfl, .inl ha, _, rfl, (by rw [List.length_map]; omega), (by rw [List.length_map]; omega), ?_⟩
    rw [List.length_map]
    refine fun D1 nD1 => lc_range (lo := 0) (n := (((ns.length : Nat) : Int)).toNat) (fun i H' => ∃ us, Ex H H' ∧ H' D1 = some (.lst us) ∧ AllR (MvR K H') us ((List.range i).map fun p => (false, p))) ⟨[], Evl.Ex.new nD1, upd_same, AllR.nil⟩ ?_ ?_
    · rintro i H2 hi ⟨us, e2, d2, a2⟩
      have ei : ((0 : Int) + (i : Int)) = ((i : Nat) : Int) := by omega
      refine ⟨rfl, ?_⟩
      show _
      refine ⟨_, rfl, (by show 2 ≤ sizeLine; decide), fun q H3 nq e3 h3 => ?_⟩
      have ul : us.length = i := by rw [a2.1, List.length_map, List.length_range]
      have ej : Exj D1 H3 (upd H3 D1 (.lst (us ++ [.ref q]))) := (Exj.refl _ _).upd
      have nt := NTup.lst (e3 _ _ d2)
      refine ⟨us, e3 _ _ d2, Nat.lt_of_lt_of_le (show us.length < 1000 by omega) (by decide), us ++ [.ref q], Evl.Ex.mut (e2.trans e3) nD1, upd_same, ?_⟩
      rw [List.range_succ, List.map_append]
      rw [ei] at h3
      exact AllR.snoc (a2.mono fun v m r => (r.ex e3).keep ej nt) ⟨q, rfl, sqT_keep ej nt (sqT h3)⟩
    rintro H2 ⟨us1, e2, d2, a2⟩
    have en : (((ns.length : Nat) : Int)).toNat = ns.length := by omega
    rw [en] at a2
    refine ⟨_, rfl, _, _, rfl, .inl (Evl.ex_l e2 ha), _, rfl, (by rw [List.length_map]; omega), (by rw [List.length_map]; omega), ?_⟩
    rw [List.length_map]
    refine fun D2 nD2 => lc_range (lo := 0) (n := (((ns.length : Nat) : Int)).toNat) (fun i H' => ∃ us, Ex H2 H' ∧ H' D2 = some (.lst us) ∧ AllR (MvR K H') us ((List.range i).map fun p => (true, p))) ⟨[], Evl.Ex.new nD2, upd_same, AllR.nil⟩ ?_ ?_
    · rintro i H3 hi ⟨us, e3, d3, a3⟩
      have ei : ((0 : Int) + (i : Int)) = ((i : Nat) : Int) := by omega
      refine ⟨rfl, ?_⟩
      show _
      refine ⟨_, rfl, (by show 2 ≤ sizeLine; decide), fun q H4 nq e4 h4 => ?_⟩
      have ul : us.length = i := by rw [a3.1, List.length_map, List.length_range]
      have ej : Exj D2 H4 (upd H4 D2 (.lst (us ++ [.ref q]))) := (Exj.refl _ _).upd
      have nt := NTup.lst (e4 _ _ d3)
      refine ⟨us, e4 _ _ d3, Nat.lt_of_lt_of_le (show us.length < 1000 by omega) (by decide), us ++ [.ref q], Evl.Ex.mut (e3.trans e4) nD2, upd_same, ?_⟩
      rw [List.range_succ, List.map_append]
      rw [ei] at h4
      exact AllR.snoc (a3.mono fun v m r => (r.ex e4).keep ej nt) ⟨q, rfl, sqT_keep ej nt (sqT h4)⟩
    rintro H3 ⟨us2, e3, d3, a3⟩
    rw [en] at a3
    have u1 : us1.length = ns.length := by rw [a2.1, List.length_map, List.length_range]
    have u2 : us2.length = ns.length := by rw [a3.1, List.length_map, List.length_range]
    refine ⟨_, _, _, _, rfl, rfl, e3 _ _ d2, d3, Nat.le_trans (show us1.length + us2.length ≤ 100 by omega) (by decide), fun M H4 nM e4 hM => ?_⟩
    have mr : AllR (MvR K H4) (us1 ++ us2) (movesC ns.length) := (a2.mono fun v m r => r.ex (e3.trans e4)).append (a3.mono fun v m r => r.ex e4)
    have e04 := e2.trans (e3.trans e4)
    -- layer
    refine ⟨(by show 0 ≤ sizeLine; decide), fun p5 H5 n5 e5 h5 => ?_⟩
    refine ⟨_, rfl, (by show 2 ≤ sizeLine; decide), fun p6 H6 n6 e6 h6 => ?_⟩
    refine ⟨(by show 1 ≤ sizeLine; decide), fun Y H7 nY e7 hY => ?_⟩
    have hem : srtM ns (List.replicate ns.length false) = [] := List.eq_nil_iff_forall_not_mem.mpr fun r hr => by
      obtain ⟨i, _, h2⟩ := srt_mem.mp hr
      have := List.mem_of_getElem? h2
      rw [List.mem_replicate] at this
      exact Bool.noConfusion this.2
    have v0 : VS ns.length (List.replicate ns.length false, ap) := ⟨List.length_replicate, hap⟩
    have st7 : StR K ns H7 (.ref p6) (List.replicate ns.length false, ap) := ⟨p6, p5, rfl, sqT (e7 _ _ h6), by rw [hem]; exact sqT (e7 _ _ (e6 _ _ h5))⟩
    -- seen
    refine ⟨_, rfl, Y, rfl, ⟨_, sqI hY⟩, fun D3 nD3 => lc_list (K := K) (a := Y) (xs := [V.ref p6]) (fun i H' => ∃ qs : List Addr, Ex H7 H' ∧ H' D3 = some (.lst (qs.map V.ref)) ∧ qs.length = i ∧ ∀ q ∈ qs, SqT K H' q [.ref p6, .bl true]) ⟨[], Evl.Ex.new nD3, upd_same, rfl, fun q h => nomatch h⟩ (fun i H' _ ⟨_, z, _⟩ => Evl.ex_l z (sqI hY)) ?_ ?_⟩
    · rintro i x H8 hx ⟨qs, e8, d8, hq, aq⟩
      obtain ⟨rfl, rfl⟩ : i = 0 ∧ x = .ref p6 := by
        cases i with
        | zero => exact ⟨rfl, (Option.some.inj hx).symm⟩
        | succ i => simp at hx
      refine ⟨rfl, ?_⟩
      show _
      refine ⟨_, rfl, (by show 2 ≤ sizeLine; decide), fun q H9 nq e9 h9 => ?_⟩
      have ej : Exj D3 H9 (upd H9 D3 (.lst (qs.map V.ref ++ [.ref q]))) := (Exj.refl _ _).upd
      have nt := NTup.lst (e9 _ _ d8)
      refine ⟨_, e9 _ _ d8, Nat.lt_of_lt_of_le (show (qs.map V.ref).length < 1000 by rw [List.length_map]; omega) (by decide), qs ++ [q], Evl.Ex.mut (e8.trans e9) nD3, by rw [upd_same, List.map_append]; rfl, by simp [hq], fun r hr => ?_⟩
      rcases List.mem_append.mp hr with z | z
      · exact sqT_keep ej nt (sqT_exN e9 (aq r z))
      · rw [List.mem_singleton.mp z]
        exact sqT_keep ej nt (sqT h9)
    rintro H8 ⟨qs, e8, d8, hq, aq⟩
    have hq : qs.length = 1 := hq
    obtain ⟨q8, rfl⟩ : ∃ q, qs = [q] := by
      match qs, hq with
      | [q], _ => exact ⟨q, rfl⟩
    have k8 := (nis_s (K := K) (ns := ns) (st := (List.replicate ns.length false, ap)) (sqT (e7 _ _ h6)) (by rw [hem]; exact sqT (e7 _ _ (e6 _ _ h5)))).ex e8
    refine ⟨D3, [q8], [(keyS ns (List.replicate ns.length false, ap), .bl true)], false, rfl, sqI d8, .cons ⟨p6, aq q8 List.mem_cons_self, k8, keyS_depth _ _⟩ .nil, fun S H9 nS e9 dS => ?_⟩
    have e07 := e04.trans (e5.trans (e6.trans e7))
    have e09 := e07.trans (e8.trans e9)
    have nSH : H S = none := none_of (e07.trans e8) nS
    -- found
    refine fun F H10 nF e10 hF => ⟨(by show 0 ≤ sizeLine; decide), fun p11 H11 n11 e11 h11 => ⟨e11 _ _ hF, keyM ns (List.replicate ns.length false), p11, false, rfl, nis_m (by rw [hem]; exact sqT h11), (by rw [keyM_depth]; decide), fun H12 x12 dF => ?_⟩⟩
    have ntF : NTup H11 F := fun o e => by
      rw [e11 _ _ hF] at e
      cases e
      exact ⟨(fun _ z => nomatch z), (fun _ _ z => nomatch z)⟩
    have nFS : F ≠ S := fun z => by
      obtain ⟨o, ho⟩ := dS.there
      rw [← z] at ho
      rw [nF] at ho
      cases ho
    have e911 := e10.trans e11
    have nFH : H F = none := none_of e09 nF
    have e012 : Ex H H12 := exj_of (e09.trans e911) nFH x12
    have bg : BG K M Y ns H12 (us1 ++ us2) [V.ref p6] [(List.replicate ns.length false, ap)] := by
      have b7 : BG K M Y ns H7 (us1 ++ us2) [V.ref p6] [(List.replicate ns.length false, ap)] := ⟨(e5.trans (e6.trans e7)) _ _ hM, mr.mono fun v m r => r.ex (e5.trans (e6.trans e7)), hY, AllR.one st7⟩
      have b11 := b7.ex ((e8.trans e9).trans e911)
      refine b11.keep x12 ntF (fun z => ?_) (fun z => ?_)
      · have := b11.m
        rw [z, e11 _ _ hF] at this
        cases this
      · have := b11.y
        rw [z, e11 _ _ hF] at this
        cases this
    have fi0 : FI K w S F Y ns H12 (9 ^ 0) (startC ns.length ap) := by
      refine ⟨(dS.ex e911).keep x12 ntF nFS.symm, dF, ⟨_, bg.y, bg.yr⟩, fun t ht => ?_, fun t ht => ?_, fun p hp => ?_, Nat.le_refl _, Nat.le_refl _, Nat.le_refl _⟩
      · rw [List.mem_singleton.mp ht]
        exact v0
      · rw [List.mem_singleton.mp ht]
        exact v0
      · rw [List.mem_singleton.mp hp]
        exact List.length_replicate
    have mu : ∃ mu, mu = us1 ++ us2 := ⟨_, rfl⟩
    obtain ⟨mu, hmu⟩ := mu
    rw [← hmu] at bg
    clear hmu
    -- for number in range(1, len(there) + 3)
    refine ⟨_, rfl, _, _, rfl, .inl (Evl.ex_l e012 ha), _, _, rfl, rfl, 1, _, rfl, (by rw [List.length_map]; omega), ?_⟩
    rw [List.length_map]
    refine for_range (lo := 1) (n := (((ns.length : Nat) : Int) + 3 - 1).toNat) (fun i σ H' => ∃ Y v6 v7 v8 v9 v10 v11 v12 v13 us, σ = [some (.ref a), some (anV (valA ns ap)), some (.ref M), some (.ref Y), some (.ref S), some (.ref F), v6, v7, v8, v9, v10, v11, v12, v13] ∧ Ex H H' ∧ H Y = none ∧ BG K M Y ns H' mu us (bfsC ns.length ap i).later ∧ FI K w S F Y ns H' (9 ^ i) (bfsC ns.length ap i)) ⟨Y, _, _, _, _, _, _, _, _, _, rfl, e012, none_of (e04.trans (e5.trans e6)) nY, bg, fi0⟩ ?_ ?_
    · rintro i σ H13 hi ⟨Y, v6, v7, v8, v9, v10, v11, v12, v13, us, rfl, e13, nYH, bg, fi⟩
      have hi : i < ns.length + 2 := by omega
      -- later = []
      refine ⟨(by show 0 ≤ sizeLine; decide), fun L H14 nL e14 hL => ?_⟩
      have e014 := e13.trans e14
      have nLH : H L = none := none_of e13 nL
      have nYL : Y ≠ L := ne_of_none bg.y nL
      have nML : M ≠ L := ne_of_none bg.m nL
      have bg14 := bg.ex e14
      have fi14 := fi.ex e14
      obtain ⟨b0, hb0⟩ : ∃ b0, b0 = bfsC ns.length ap i := ⟨_, rfl⟩
      rw [← hb0] at bg14 fi14
      have fiL : FI K w S F L ns H14 (9 ^ i) { b0 with later := [] } := ⟨fi14.s, fi14.f, ⟨[], hL, AllR.nil⟩, fi14.vs, (fun t h => nomatch h), fi14.vf, fi14.n1, Nat.zero_le _, fi14.n3⟩
      have eb : bfsC ns.length ap (i + 1) = b0.later.foldl (rowC ns.length ((i : Int) + 1)) { b0 with later := [] } := by rw [hb0]; rfl
      have ul : us.length = b0.later.length := bg14.yr.1
      have ub : us.length ≤ 9 ^ i := by rw [ul]; exact fi14.n2
      have p9 : 9 ^ i ≤ 59049 := Nat.le_trans (Nat.pow_le_pow_right (by decide) (show i ≤ 5 by omega)) (by decide)
      have mul : mu.length ≤ 8 := by rw [bg14.mr.1, moves_len]; omega
      have nSL : L ≠ S := fi14.s.ne_lst hL
      have nFL : L ≠ F := fi14.f.ne_lst hL
      have nMS : M ≠ S := fi14.s.ne_lst bg14.m
      have nMF : M ≠ F := fi14.f.ne_lst bg14.m
      have nYS : Y ≠ S := fi14.s.ne_lst bg14.y
      have nYF : Y ≠ F := fi14.f.ne_lst bg14.y
      -- for marks, own in layer
      refine ⟨_, rfl, Y, rfl, ⟨_, sqI bg14.y⟩, for_list (K := K) (a := Y) (xs := us) (fun j σ H' => ∃ v8 v9 v10 v11 v12 v13, σ = [some (.ref a), some (anV (valA ns ap)), some (.ref M), some (.ref Y), some (.ref S), some (.ref F), some (.int (1 + (i : Int))), some (.ref L), v8, v9, v10, v11, v12, v13] ∧ Ex H H' ∧ BG K M Y ns H' mu us b0.later ∧ FI K w S F L ns H' (9 ^ i + 8 * j) ((b0.later.take j).foldl (rowC ns.length ((i : Int) + 1)) { b0 with later := [] })) ⟨_, _, _, _, _, _, rfl, e014, bg14, fiL⟩ (fun j σ H' _ ⟨_, _, _, _, _, _, _, _, b, _⟩ => sqI b.y) ?_ ?_⟩
      · rintro j x σ H15 hx ⟨v8, v9, v10, v11, v12, v13, rfl, e15, bg15, fi15⟩
        obtain ⟨st, hst, q, r, rfl, hq, hr15⟩ := AllR.get bg15.yr hx
        have vst : VS ns.length st := fi14.vl st (List.mem_of_getElem? hst)
        have jl : j < us.length := (List.getElem?_eq_some_iff.mp hx).1
        refine ⟨_, _, rfl, hq, rfl, _, _, rfl, _, _, rfl, rfl, ?_⟩
        refine st_eq (σ' := [some (.ref a), some (anV (valA ns ap)), some (.ref M), some (.ref Y), some (.ref S), some (.ref F), some (.int (1 + (i : Int))), some (.ref L), some (.ref r), some (anV (valA ns st.2)), v10, v11, v12, v13]) (P := fun σ => L2.tFor _ _ _ _ σ H15) rfl ?_
        obtain ⟨bj, hbj⟩ : ∃ bj, bj = (b0.later.take j).foldl (rowC ns.length ((i : Int) + 1)) { b0 with later := [] } := ⟨_, rfl⟩
        rw [← hbj] at fi15
        have etj : (b0.later.take (j + 1)).foldl (rowC ns.length ((i : Int) + 1)) { b0 with later := [] } = (movesC ns.length).foldl (turnC ((i : Int) + 1) st) bj := by
          rw [List.take_add_one, hst, List.foldl_append, ← hbj]
          rfl
        rw [etj]
        -- for move in moves
        refine ⟨_, rfl, M, rfl, ⟨_, sqI bg15.m⟩, for_list (K := K) (a := M) (xs := mu) (fun m σ H' => ∃ v10 v11 v12 v13, σ = [some (.ref a), some (anV (valA ns ap)), some (.ref M), some (.ref Y), some (.ref S), some (.ref F), some (.int (1 + (i : Int))), some (.ref L), some (.ref r), some (anV (valA ns st.2)), v10, v11, v12, v13] ∧ Ex H H' ∧ BG K M Y ns H' mu us b0.later ∧ SqT K H' r ((srtM ns st.1).map V.int) ∧ FI K w S F L ns H' (9 ^ i + 8 * j + m) (((movesC ns.length).take m).foldl (turnC ((i : Int) + 1) st) bj)) ⟨_, _, _, _, rfl, e15, bg15, hr15, fi15⟩ (fun m σ H' _ ⟨_, _, _, _, _, _, b, _⟩ => sqI b.m) ?_ ?_⟩
        · rintro m x σ H16 hx ⟨v10, v11, v12, v13, rfl, e16, bg16, hr16, fi16⟩
          obtain ⟨mv, hmv, qm, rfl, hqm⟩ := AllR.get bg16.mr hx
          obtain ⟨b, p⟩ := mv
          have hp : p < ns.length := moves_at hmv
          have ml : m < mu.length := (List.getElem?_eq_some_iff.mp hx).1
          obtain ⟨bf, hbf⟩ : ∃ bf, bf = ((movesC ns.length).take m).foldl (turnC ((i : Int) + 1) st) bj := ⟨_, rfl⟩
          have etk : ((movesC ns.length).take (m + 1)).foldl (turnC ((i : Int) + 1) st) bj = turnC ((i : Int) + 1) st bf (b, p) := by
            rw [List.take_add_one, hmv, List.foldl_append, ← hbf]
            rfl
          rw [← hbf] at fi16
          rw [etk]
          have sl := srt_len (fl := st.1) nd vst.len
          -- behind
          refine ⟨_, rfl, _, rfl, r, _, rfl, .inr hr16, fun l17 H17 n17 e17 h17 => ?_⟩
          refine ⟨_, rfl, _, rfl, (by show 1 ≤ sizeLine; decide), fun l18 H18 n18 e18 h18 => ?_⟩
          have cls : Cls K H18 [V.ref qm] [(wordC b, (p : Int))] := ⟨rfl, fun i' v c h1 h2 => by
            cases i' with
            | zero =>
              cases h1
              cases h2
              exact ⟨qm, rfl, sqT_exN (e17.trans e18) hqm⟩
            | succ i' => simp at h1⟩
          have ck : ClOk ns.length [(wordC b, (p : Int))] := fun c hc => by
            rw [List.mem_singleton.mp hc]
            refine ⟨?_, by show (0 : Int) ≤ (p : Nat); omega, by show ((p : Nat) : Int) < _; omega⟩
            cases b
            · exact .inl rfl
            · exact .inr rfl
          refine ⟨a, l17, l18, ns, srtM ns st.1, [V.ref qm], [(wordC b, (p : Int))], valA ns st.2, rfl, Evl.ex_l (e16.trans (e17.trans e18)) ha, sqI (e18 _ _ h17), sqI h18, nd, by omega, pw_nodup (srt_asc nd vst.len), by omega, cls, ck, fun p19 q19 H19 rs n19 e19 npq nq hq19 hp19 pw his hss => ?_⟩
          have ers := rs_srt nd vst hp pw his hss
          obtain ⟨vs', ea, _⟩ := step_rel nd vst (b := b) hp
          rw [ea] at hq19
          rw [ers] at hp19
          obtain ⟨z', hz'⟩ : ∃ z', z' = stepC st (b, p) := ⟨_, rfl⟩
          have et : turnC ((i : Int) + 1) st bf (b, p) = if z' ∈ bf.seen then bf else ⟨bf.seen ++ [z'], bf.later ++ [z'], putF bf.found z'.1 (minC ((i : Int) + 1) ((getF bf.found z'.1).getD ((i : Int) + 1)))⟩ := by rw [hz']; rfl
          rw [et]
          rw [← hz'] at hq19 hp19 vs'
          refine st_eq (σ' := [some (.ref a), some (anV (valA ns ap)), some (.ref M), some (.ref Y), some (.ref S), some (.ref F), some (.int (1 + (i : Int))), some (.ref L), some (.ref r), some (anV (valA ns st.2)), some (.ref qm), v11, v12, v13]) (P := fun σ => gName 11 (V.ref q19) σ H19 _) rfl ?_
          -- state
          refine ⟨_, rfl, _, _, _, _, rfl, rfl, sqT hq19, at0, p19, _, rfl, sqI hp19, fun t H20 nt e20 ht => ?_⟩
          refine ⟨_, rfl, _, _, _, _, rfl, rfl, sqT (e20 _ _ hq19), at1, (by show 2 ≤ sizeLine; decide), fun z H21 nz e21 hz => ?_⟩
          have e1621 := e17.trans (e18.trans (e19.trans (e20.trans e21)))
          have e021 := e16.trans e1621
          have bg21 := bg16.ex e1621
          have fi21 := fi16.ex e1621
          have hr21 := sqT_exN e1621 hr16
          have ht21 := e21 _ _ ht
          have sz21 : SqT K H21 z [.ref t, anV (valA ns z'.2)] := sqT hz
          have st21 : SqT K H21 t ((srtM ns z'.1).map V.int) := sqT ht21
          have nzk : NIs false K H21 (keyS ns z') (.ref z) := nis_s sz21 st21
          -- if state not in seen
          refine ⟨_, rfl, _, rfl, S, z, _, keyS ns z', rfl, rfl, fi21.s.rd, nzk.up', keyS_depth _ _, _, rfl, ?_⟩
          rw [valV_kvS nd vs' fi21.vs]
          refine ifB (fun c => ?_) (fun c => ?_)
          · have c : z' ∉ bf.seen := by simpa using c
            rw [if_neg c]
            have vn : valV (kvS ns bf.seen) (keyS ns z') = none := by
              have := valV_kvS nd vs' fi21.vs
              rw [decide_eq_false c] at this
              exact Option.isNone_iff_eq_none.mp (by rw [← Option.not_isSome, this]; rfl)
            have bL : bf.seen.length < 1000000 ∧ bf.later.length < 1000000 ∧ bf.found.length < 1000000 := by
              have h1 := fi16.n1
              have h2 := fi16.n2
              have h3 := fi16.n3
              omega
            -- seen[state] = True
            refine ⟨_, rfl, _, rfl, S, z, _, _, _, rfl, rfl, fi21.s, nzk, keyS_depth _ _, ?_, fun H22 x22 dS22 => ?_⟩
            · unfold kvS
              rw [List.length_map]
              exact Nat.lt_trans bL.1 (by decide)
            rw [putK_kvS vn] at dS22
            have ntS := fi21.s.ntup
            have bg22 := bg21.keep x22 ntS nMS nYS
            obtain ⟨us', hL21, aL21⟩ := fi21.l
            have hL22 := x22 _ _ nSL hL21
            have aL22 : AllR (StR K ns H22) us' bf.later := aL21.mono fun v t r => r.keep x22 ntS
            have hz22 := sqT_keep x22 ntS sz21
            have ht22 := sqT_keep x22 ntS st21
            have hr22 := sqT_keep x22 ntS hr21
            have dF22 := fi21.f.keep x22 ntS nFS
            have e022 := exj_of e021 nSH x22
            -- later.append(state)
            refine ⟨_, rfl, .inl ⟨rfl, _, sqI hL22⟩, _, rfl, _, _, _, rfl, rfl, hL22, ?_, ?_⟩
            · rw [aL22.1]
              exact Nat.lt_trans bL.2.1 (by decide)
            have ntL : NTup H22 L := NTup.lst hL22
            have x23 : Exj L H22 (upd H22 L (.lst (us' ++ [.ref z]))) := (Exj.refl _ _).upd
            have hL23 : upd H22 L (.lst (us' ++ [.ref z])) L = some (.lst (us' ++ [.ref z])) := upd_same
            generalize upd H22 L (.lst (us' ++ [.ref z])) = H23 at x23 hL23 ⊢
            have e023 := exj_of e022 nLH x23
            have bg23 := bg22.keep x23 ntL nML nYL
            have hz23 := sqT_keep x23 ntL hz22
            have ht23 := sqT_keep x23 ntL ht22
            have hr23 := sqT_keep x23 ntL hr22
            have aL23 : AllR (StR K ns H23) (us' ++ [.ref z]) (bf.later ++ [z']) := AllR.snoc (aL22.mono fun v t r => r.keep x23 ntL) ⟨z, t, rfl, hz23, ht23⟩
            have dS23 := dS22.keep x23 ntL nSL.symm
            have dF23 := dF22.keep x23 ntL nFL.symm
            have nmk : NIs false K H23 (keyM ns z'.1) (.ref t) := nis_m ht23
            have eg : valV (kvF ns bf.found) (keyM ns z'.1) = (getF bf.found z'.1).map V.int := valV_kvF nd vs'.len fi21.vf
            have en1 : (1 : Int) + (i : Int) = (i : Int) + 1 := by omega
            -- found[state[0]] = min(number, found.get(state[0], number))
            refine ⟨_, rfl, _, rfl, F, rfl, ⟨_, dF23.rd⟩, _, rfl, _, _, _, _, rfl, rfl, hz23, at0, _, rfl, _, _, t, rfl, dF23.rd, nmk.up', (by rw [keyM_depth]; decide), (1 + (i : Int)), (getF bf.found z'.1).getD (1 + (i : Int)), (by rw [eg, getD_int]), ?_⟩
            refine ⟨_, rfl, _, rfl, _, _, _, _, rfl, rfl, hz23, at0, F, t, _, keyM ns z'.1, _, rfl, rfl, dF23, nmk, (by rw [keyM_depth]; decide), ?_, fun H24 x24 dF24 => ?_⟩
            · unfold kvF
              rw [List.length_map]
              exact Nat.lt_trans bL.2.2 (by decide)
            rw [putK_kvF nd vs'.len fi21.vf, en1] at dF24
            have ntF2 := dF23.ntup
            refine ⟨_, _, _, _, rfl, exj_of e023 nFH x24, bg23.keep x24 ntF2 nMF nYF, sqT_keep x24 ntF2 hr23, ⟨dS23.keep x24 ntF2 nFS.symm, dF24, ⟨_, x24 _ _ nFL hL23, aL23.mono fun v t r => r.keep x24 ntF2⟩, ?_, ?_, ?_, ?_, ?_, ?_⟩⟩
            · intro u hu
              rcases List.mem_append.mp hu with y | y
              · exact fi21.vs u y
              · rw [List.mem_singleton.mp y]
                exact vs'
            · intro u hu
              rcases List.mem_append.mp hu with y | y
              · exact fi21.vl u y
              · rw [List.mem_singleton.mp y]
                exact vs'
            · exact putF_vs fi21.vf vs'.len
            · show (bf.seen ++ [z']).length ≤ _
              rw [List.length_append]
              have := fi21.n1
              show bf.seen.length + 1 ≤ _
              omega
            · show (bf.later ++ [z']).length ≤ _
              rw [List.length_append]
              have := fi21.n2
              show bf.later.length + 1 ≤ _
              omega
            · refine Nat.le_trans (putF_len _ _ _) ?_
              have := fi21.n3
              omega
          · have c : z' ∈ bf.seen := by simpa using c
            rw [if_pos c]
            exact ⟨_, _, _, _, rfl, e021, bg21, hr21, fi21.mono (by omega)⟩
        · rintro σ H16 ⟨v10, v11, v12, v13, rfl, e16, bg16, hr16, fi16⟩
          have hm := bg16.mr.1
          rw [hm, List.take_length] at fi16
          exact ⟨_, _, _, _, _, _, rfl, e16, bg16, fi16.mono (by omega)⟩
      · rintro σ H15 ⟨v8, v9, v10, v11, v12, v13, rfl, e15, bg15, fi15⟩
        rw [ul, List.take_length, ← eb] at fi15
        obtain ⟨us', hL', aL'⟩ := fi15.l
        refine ⟨_, rfl, L, _, _, _, _, _, _, _, _, us', rfl, e15, nLH, ⟨bg15.m, bg15.mr, hL', aL'⟩, fi15.mono ?_⟩
        rw [Nat.pow_succ, ← ul]
        omega
    · rintro σ H13 ⟨Y, v6, v7, v8, v9, v10, v11, v12, v13, us, rfl, e13, nYH, bg, fi⟩
      have e2n : (((ns.length : Nat) : Int) + 3 - 1).toNat = ns.length + 2 := by omega
      rw [e2n] at fi
      exact ⟨_, rfl, k F H13 nFH e13 fi.f⟩
end
end K27
set_option Elab.async false
set_option pp.maxSteps 1200
set_option linter.all false
set_option maxRecDepth 100000
set_option maxHeartbeats 4000000
namespace K27
open PySem L2 My
def sp_law (K : PySem.W.Frag) : Sp := fun vs H Q _ => ∃ (a : Addr) (ns : List Int), vs = [.ref a] ∧ SqL K H a (ns.map V.int) ∧ ns.length ≤ 63 ∧ ∀ H', Q (.bl true) H'
theorem _root_.My.Exj.exOf {j : Addr} {H H1 H2 : Hp} (e : Ex H H1) (n : H j = none) (e2 : Exj j H1 H2) : Ex H H2 := fun b o h => e2 b o (ne_of_none h n) (e b o h)
theorem same {α : Type} [DecidableEq α] {x : α} : (!decide (x = x)) = false := by simp
theorem start_pos (n : Nat) (lo : Option Int) (h : ∀ b, lo = some b → 0 ≤ b) : 0 ≤ (sliceBounds lo none (some 2) n).1 := by
  cases lo with
  | none => exact Int.le_refl 0
  | some b =>
    show 0 ≤ (let i := if b < 0 then b + n else b; if (2 : Int) > 0 then max 0 (min i n) else max (-1) (min i ((n : Int) - 1)))
    dsimp only
    rw [if_pos (by decide)]
    exact Int.le_max_left _ _
theorem step_ix_pw (n : Nat) (lo : Option Int) (h : ∀ b, lo = some b → 0 ≤ b) : (stepIx n lo 2).Pairwise (· < ·) := by
  unfold stepIx sliceRange
  have e : (sliceBounds lo none (some 2) n).2.2 = 2 := rfl
  rw [e, List.pairwise_map]
  have s0 := start_pos n lo h
  refine List.pairwise_lt_range.imp fun {i j} hij => ?_
  omega
theorem step_nodup {xs : List Int} (nd : xs.Nodup) {lo : Option Int} (h : ∀ b, lo = some b → 0 ≤ b) : (stepV xs lo 2).Nodup := by
  unfold stepV
  rw [List.nodup_iff_pairwise_ne]
  refine List.Pairwise.filterMap (R := (· < ·)) _ (fun i j hij a ha c hc e => ?_) (step_ix_pw xs.length lo h)
  subst e
  obtain ⟨i1, e1⟩ := List.getElem?_eq_some_iff.mp ha
  obtain ⟨j1, e2⟩ := List.getElem?_eq_some_iff.mp hc
  have := nodup_inj nd i1 j1 (e1.trans e2.symm)
  omega
theorem step_mem {xs : List Int} {lo : Option Int} {r : Int} (h : r ∈ stepV xs lo 2) : r ∈ xs := by
  obtain ⟨i, _, hi⟩ := List.mem_filterMap.mp h
  exact List.mem_of_getElem? hi
theorem borders_congr {ns ms ms' : List Int} (h : ∀ r ∈ ns, r ∈ ms ↔ r ∈ ms') : bordersL ns ms = bordersL ns ms' := by
  have e : flagL ns ms = flagL ns ms' := by
    unfold flagL
    congr 2
    exact List.map_congr_left fun r hr => by rw [decide_eq_decide]; exact h r hr
  unfold bordersL
  rw [e]
theorem valV_mem {κ : Type} [DecidableEq κ] {k : κ} {v : V} : ∀ {kvs : List (κ × V)}, (kvs.map (·.1)).Nodup → (k, v) ∈ kvs → valV kvs k = some v
  | p :: r, nd, h => by
    obtain ⟨h1, h2⟩ := List.nodup_cons.mp nd
    rcases List.mem_cons.mp h with e | e
    · rw [← e]
      exact valV_pos rfl
    · have ne : ¬ p.1 = k := fun z => h1 (List.mem_map.mpr ⟨(k, v), e, z.symm⟩)
      rw [valV_neg ne]
      exact valV_mem h2 e
theorem cost_srt {ns : List Int} (nd : ns.Nodup) {fl : List Bool} (hl : fl.length = ns.length) : costL ns (srtM ns fl) = costC fl := by
  rw [costL_C]
  congr 1
  refine flag_ext (n := ns.length) (by rw [List.length_map]) hl fun i hi => ?_
  have hr := get_row hi
  rw [List.getD_eq_getElem?_getD, List.getElem?_map, hr]
  show decide (ns.getD i 0 ∈ srtM ns fl) = fl.getD i false
  rw [Bool.eq_iff_iff, decide_eq_true_iff]
  exact srt_at nd hl hr
theorem bd_bk {n : Nat} (hn : n ≤ 500) {bs : List Bk} (h : ∀ k ∈ bs, (0 ≤ k.1 ∧ k.1 ≤ n) ∧ (0 ≤ k.2 ∧ k.2 ≤ n)) : Shw (eL eB bs) 2 (2 + bs.length * 3851) := by
  unfold eL
  rw [show bs.length = (bs.map eB).length by rw [List.length_map]]
  refine Shw.list (n := 1) (M := 3849) fun x hx => ?_
  obtain ⟨k, hk, rfl⟩ := List.mem_map.mp hx
  have hb := h k hk
  refine Shw.tuple (n := 0) (M := 1921) (xs := [.int k.1, .int k.2]) fun y hy => ?_
  have : y = .int k.1 ∨ y = .int k.2 := by simpa using hy
  rcases this with e | e
  · rw [e]
    exact Shw.int (log_of (Nat.lt_of_lt_of_le (show k.1.natAbs < 2 ^ 10 by omega) (Nat.pow_le_pow_right (by decide) (by decide))))
  · rw [e]
    exact Shw.int (log_of (Nat.lt_of_lt_of_le (show k.2.natAbs < 2 ^ 10 by omega) (Nat.pow_le_pow_right (by decide) (by decide))))
theorem cost_bd0 (n : Nat) (hn : n ≤ 500) : ∀ l : List Bk, (∀ k ∈ l, (0 ≤ k.1 ∧ k.1 ≤ (n : Int)) ∧ (0 ≤ k.2 ∧ k.2 ≤ (n : Int))) → ((l.map costB).sum).natAbs ≤ l.length * 1000
  | [], _ => Nat.le_refl _
  | k :: l, hk => by
    have ih := cost_bd0 n hn l fun x hx => hk x (List.mem_cons_of_mem _ hx)
    have := hk k List.mem_cons_self
    rw [List.map_cons, List.sum_cons, List.length_cons]
    unfold costB at ih ⊢
    omega
theorem cost_bd (ns ms : List Int) (h : ns.length ≤ 500) : (costL ns ms).natAbs < 2 ^ 1900 := by
  have h2 := cost_bd0 ns.length h (blocksL (bordersL ns ms)) fun k hk => blocks_in hk
  have h3 := blocks_len (bordersL ns ms)
  have h4 := borders_len ns ms
  unfold costL
  exact Nat.lt_of_lt_of_le (show _ < 2 ^ 20 by omega) (Nat.pow_le_pow_right (by decide) (by decide))
section
variable {w : World} {K : PySem.W.Frag} {mg : Str → Option Value} {base : Heap}
theorem ok_law (T : Txt K mg) : FnOkG PR w K mg base CX0 5 T.a_law T.d_law ["_law_script"] (sp_law K) := by
  refine T.f_law.okG sc_law (fun vs H Q E h => ?_) (fun cdv A outer s H vs Q E hr gd h => ?_)
  · obtain ⟨a, ns, rfl, _⟩ := h
    rfl
  · obtain ⟨sa, sc, rfl, hs, hsl, k⟩ := h
    refine ⟨_, (pss_cons (ps_for PassesOwn.never rfl (pi_range1 (by rfl) T.z_range (pa_cons (pe_callB (call_max2 rfl) (by rfl) T.z_max (by decide +kernel) (pa_cons pe_int (pa_cons (pe_callB (call_min2 rfl) (by rfl) T.z_min (by decide +kernel) (pa_cons pe_int (pa_cons (pe_callB call_len_seq (by rfl) T.z_len PySem.boot_len (pa_cons (pv 0) pa_nil)) pa_nil))) pa_nil))) pa_nil)) (pg_name (i := 1) sc_law.nd rfl (by first | exact Or.inl rfl | exact Or.inr rfl)) (pss_cons (ps_set (i := 2) sc_law.nd rfl (by first | exact Or.inl rfl | exact Or.inr rfl) (pe_call (ok__law_source T) (hr.mono (by decide)) (by rfl) T.g__law_source T.f__law_source.kp (b__law_source T) .nil pass0 (pa_cons (pv 0) (pa_cons (pv 1) pa_nil)))) (pss_cons (ps_set (i := 3) sc_law.nd rfl (by first | exact Or.inl rfl | exact Or.inr rfl) (pe_ix ix_list (pe_lstG (pa_cons (pe_call (ok__law_draw T) (hr.mono (by decide)) (by rfl) T.g__law_draw T.f__law_draw.kp (b__law_draw T) .nil pass0 (pa_cons (pv 2) (pa_cons pe_int pa_nil))) (pa_cons (pe_call (ok__law_draw T) (hr.mono (by decide)) (by rfl) T.g__law_draw T.f__law_draw.kp (b__law_draw T) .nil pass0 (pa_cons (pv 2) (pa_cons pe_int pa_nil))) (pa_cons pe_int pa_nil)))) (pe_call (ok__law_draw T) (hr.mono (by decide)) (by rfl) T.g__law_draw T.f__law_draw.kp (b__law_draw T) .nil pass0 (pa_cons (pv 2) (pa_cons pe_int pa_nil))) (fun _ _ => rfl))) (pss_cons (ps_set (i := 4) sc_law.nd rfl (by first | exact Or.inl rfl | exact Or.inr rfl) (pe_call (ok__law_some T) (hr.mono (by decide)) (by rfl) T.g__law_some T.f__law_some.kp (b__law_some T) .nil pass0 (pa_cons (pv 2) (pa_cons (pe_listRgG (by rfl) (by rfl) T.z_list (prg_1 (by rfl) T.z_range (pe_callB (call_max2 rfl) (by rfl) T.z_max (by decide +kernel) (pa_cons pe_int (pa_cons (pv 3) pa_nil))))) (pa_cons (pv 3) pa_nil))))) (pss_cons (ps_set (i := 5) sc_law.nd rfl (by first | exact Or.inl rfl | exact Or.inr rfl) (pe_lstG (pa_cons (pe_call (ok__law_some T) (hr.mono (by decide)) (by rfl) T.g__law_some T.f__law_some.kp (b__law_some T) .nil pass0 (pa_cons (pv 2) (pa_cons (pv 4) (pa_cons (pe_call (ok__law_draw T) (hr.mono (by decide)) (by rfl) T.g__law_draw T.f__law_draw.kp (b__law_draw T) .nil pass0 (pa_cons (pv 2) (pa_cons (pe_op op_add (pv 3) pe_int) pa_nil))) pa_nil)))) (pa_cons (pe_callTy call_listG (by rfl) T.z_list (by decide +kernel) (pa_cons (pv 4) pa_nil)) (pa_cons (pe_stepG (by decide) (pv 4) po_none) (pa_cons (pe_stepG (by decide) (pv 4) (po_some pe_int)) pa_nil)))))) (pss_cons (ps_set (i := 6) sc_law.nd rfl (by first | exact Or.inl rfl | exact Or.inr rfl) (pe_callB cr_sortedG (by rfl) T.z_sorted (by decide +kernel) (pa_cons (pe_ix ix_list (pv 5) (pe_ix ix_list (pe_lstG (pa_cons pe_int (pa_cons pe_int (pa_cons pe_int (pa_cons pe_int (pa_cons pe_int pa_nil)))))) (pe_call (ok__law_draw T) (hr.mono (by decide)) (by rfl) T.g__law_draw T.f__law_draw.kp (b__law_draw T) .nil pass0 (pa_cons (pv 2) (pa_cons pe_int pa_nil))) (fun _ _ => rfl)) (fun _ _ => rfl)) pa_nil))) (pss_cons (ps_set (i := 7) sc_law.nd rfl (by first | exact Or.inl rfl | exact Or.inr rfl) (pe_callB cr_sortedG (by rfl) T.z_sorted (by decide +kernel) (pa_cons (pe_op op_catG (pv 6) (pe_slice sl_listG (pe_lstG (pa_cons pe_int (pa_cons pe_int pa_nil))) po_none (po_some (pe_callB (call_min2 rfl) (by rfl) T.z_min (by decide +kernel) (pa_cons (pe_op op_sub pe_int (pe_callB call_len_seq (by rfl) T.z_len PySem.boot_len (pa_cons (pv 6) pa_nil))) (pa_cons (pe_call (ok__law_draw T) (hr.mono (by decide)) (by rfl) T.g__law_draw T.f__law_draw.kp (b__law_draw T) .nil pass0 (pa_cons (pv 2) (pa_cons pe_int pa_nil))) pa_nil)))))) pa_nil))) (pss_cons (ps_set (i := 8) sc_law.nd rfl (by first | exact Or.inl rfl | exact Or.inr rfl) (pe_call (ok__law_borders T) (hr.mono (by decide)) (by rfl) T.g__law_borders T.f__law_borders.kp (b__law_borders T) .nil pass0 (pa_cons (pv 4) (pa_cons (pv 6) pa_nil)))) (pss_cons (ps_set (i := 9) sc_law.nd rfl (by first | exact Or.inl rfl | exact Or.inr rfl) (pe_tupG (pa_cons (pe_call (ok_borders T) (hr.mono (by decide)) (by rfl) T.g_borders T.f_borders.kp (b_borders T) .nil passL (pa_cons (pv 4) (pa_cons (pv 7) pa_nil))) (pa_cons (pe_call (ok_blocks T) (hr.mono (by decide)) (by rfl) T.g_blocks T.f_blocks.kp (b_blocks T) .nil passL (pa_cons (pv 4) (pa_cons (pv 7) pa_nil))) (pa_cons (pe_call (ok_cost T) (hr.mono (by decide)) (by rfl) T.g_cost T.f_cost.kp (b_cost T) .nil passL (pa_cons (pv 4) (pa_cons (pv 6) pa_nil))) pa_nil))))) (pss_cons (ps_if (pt_cmpR op_ne (pe_callB (cr_reprA gd hr.units) (by rfl) T.z_repr (by decide +kernel) (pa_cons (pv 9) pa_nil)) (pe_callB (cr_reprA gd hr.units) (by rfl) T.z_repr (by decide +kernel) (pa_cons (pe_tupG (pa_cons (pv 8) (pa_cons (pe_call (ok__law_blocks T) (hr.mono (by decide)) (by rfl) T.g__law_blocks T.f__law_blocks.kp (b__law_blocks T) .nil pass0 (pa_cons (pv 8) pa_nil)) (pa_cons (pe_call (ok__law_cost T) (hr.mono (by decide)) (by rfl) T.g__law_cost T.f__law_cost.kp (b__law_cost T) .nil pass0 (pa_cons (pv 4) (pa_cons (pv 6) pa_nil))) pa_nil)))) pa_nil)) (nomark _)) (pss_one (ps_ret pe_bl)) pss_nil) (pss_cons (ps_expr (pe_bm PySem.F.plainAttrs_list PySem.F.slot_list_append PySem.F.type_list_append mt_append (pe_ix ix_tup (pv 9) pe_int (fun _ _ => rfl)) (pa_cons pe_int pa_nil))) (pss_cons (ps_expr (pe_bm PySem.F.plainAttrs_list PySem.F.slot_list_append PySem.F.type_list_append mt_append (pe_ix ix_tup (pv 9) pe_int (fun _ _ => rfl)) (pa_cons (pe_tupG (pa_cons pe_int (pa_cons pe_int pa_nil))) pa_nil))) (pss_cons (ps_if (PW.pt (pw_or (pt_cmpR op_ne (pe_callB (cr_reprA gd hr.units) (by rfl) T.z_repr (by decide +kernel) (pa_cons (pe_callK0 (ok_borders T) (hr.mono (by decide)) (by rfl) T.g_borders T.f_borders.kp (kb_borders_0_marks_there T) passL (pk_cons (pv 7) (pk_cons (pv 4) pk_nil))) pa_nil)) (pe_callB (cr_reprA gd hr.units) (by rfl) T.z_repr (by decide +kernel) (pa_cons (pv 8) pa_nil)) (nomark _)) (pw_or1 (pt_cmpR (op_neD hr.units) (pe_callK0 (ok_blocks T) (hr.mono (by decide)) (by rfl) T.g_blocks T.f_blocks.kp (kb_blocks_0_marks_there T) passL (pk_cons (pv 7) (pk_cons (pv 4) pk_nil))) (pe_call (ok__law_blocks T) (hr.mono (by decide)) (by rfl) T.g__law_blocks T.f__law_blocks.kp (b__law_blocks T) .nil pass0 (pa_cons (pv 8) pa_nil)) (nomark _))))) (pss_one (ps_ret pe_bl)) pss_nil) (pss_cons (ps_if (pt_cmpR op_ne (pe_callB (cr_reprA gd hr.units) (by rfl) T.z_repr (by decide +kernel) (pa_cons (pe_callK0 (ok_cost T) (hr.mono (by decide)) (by rfl) T.g_cost T.f_cost.kp (kb_cost_0_marks_there T) passL (pk_cons (pv 6) (pk_cons (pv 4) pk_nil))) pa_nil)) (pe_callB (cr_reprA gd hr.units) (by rfl) T.z_repr (by decide +kernel) (pa_cons (pe_call (ok__law_cost T) (hr.mono (by decide)) (by rfl) T.g__law_cost T.f__law_cost.kp (b__law_cost T) .nil pass0 (pa_cons (pv 4) (pa_cons (pv 6) pa_nil))) pa_nil)) (nomark _)) (pss_one (ps_ret pe_bl)) pss_nil) (pss_cons (ps_set (i := 10) sc_law.nd rfl (by first | exact Or.inl rfl | exact Or.inr rfl) (pe_slice sl_listG (pv 4) po_none (po_some pe_int))) (pss_one (ps_if (PW.pt (pw_and (pt_cmpR op_eq (pv 1) pe_int (nomark _)) (pw_and1 (pt_cmpR op_eq (pe_call (ok__law_draw T) (hr.mono (by decide)) (by rfl) T.g__law_draw T.f__law_draw.kp (b__law_draw T) .nil pass0 (pa_cons (pv 2) (pa_cons pe_int pa_nil))) pe_int (nomark _))))) (pss_cons (ps_set (i := 11) sc_law.nd rfl (by first | exact Or.inl rfl | exact Or.inr rfl) (pe_call (ok__law_fewest T) (hr.mono (by decide)) (by rfl) T.g__law_fewest T.f__law_fewest.kp (b__law_fewest T) .nil pass0 (pa_cons (pv 10) (pa_cons (pe_ix ix_list (pe_op op_catG (pe_lstG (pa_cons pe_non pa_nil)) (pv 10)) (pe_call (ok__law_draw T) (hr.mono (by decide)) (by rfl) T.g__law_draw T.f__law_draw.kp (b__law_draw T) .nil pass0 (pa_cons (pv 2) (pa_cons (pe_op op_add (pe_callB call_len_seq (by rfl) T.z_len PySem.boot_len (pa_cons (pv 10) pa_nil)) pe_int) pa_nil))) (fun _ _ => rfl)) pa_nil)))) (pss_cons (ps_if (pt_cmpR op_ne (pe_callB call_lenN (by rfl) T.z_len PySem.boot_len (pa_cons (pv 11) pa_nil)) (pe_ix ix_list (pe_lstG (pa_cons pe_int (pa_cons pe_int (pa_cons pe_int (pa_cons pe_int (pa_cons pe_int pa_nil)))))) (pe_callB call_len_seq (by rfl) T.z_len PySem.boot_len (pa_cons (pv 10) pa_nil)) (fun _ _ => rfl)) (nomark _)) (pss_one (ps_ret pe_bl)) pss_nil) (pss_one (ps_lock (ps_for PassesOwn.never rfl (pi_keysN (pv 11)) (pg_name (i := 12) sc_law.nd rfl (by first | exact Or.inl rfl | exact Or.inr rfl)) (pss_one (ps_if (pt_cmpR op_ne (pe_callB (cr_reprA gd hr.units) (by rfl) T.z_repr (by decide +kernel) (pa_cons (pe_call (ok_cost T) (hr.mono (by decide)) (by rfl) T.g_cost T.f_cost.kp (b_cost T) .nil passL (pa_cons (pv 10) (pa_cons (pe_callTy call_listG (by rfl) T.z_list (by decide +kernel) (pa_cons (pv 12) pa_nil)) pa_nil))) pa_nil)) (pe_callB (cr_reprA gd hr.units) (by rfl) T.z_repr (by decide +kernel) (pa_cons (pe_nget hr.units (pv 11) (pv 12) (fun _ _ => rfl)) pa_nil)) (nomark _)) (pss_one (ps_ret pe_bl)) pss_nil))))))) pss_nil))))))))))))))))) (pss_one (ps_ret pe_bl))), ?_⟩
    have em : ∃ c : Nat, (if (if ((sc.map V.int).length : Int) < 3 then ((sc.map V.int).length : Int) else 3) > 1 then (if ((sc.map V.int).length : Int) < 3 then ((sc.map V.int).length : Int) else 3) else 1) = (c : Int) ∧ c ≤ 3 := by
      rw [List.length_map]
      refine ⟨max 1 (min 3 sc.length), ?_, by omega⟩
      split <;> split <;> omega
    obtain ⟨c, ec, c3⟩ := em
    refine ⟨_, rfl, _, _, rfl, .inl hs, _, _, rfl, _, _, rfl, ?_⟩
    rw [ec]
    refine ⟨_, rfl, (by omega), (by omega), for_range (lo := 0) (n := ((c : Int)).toNat) (fun i σ H' => ∃ v1 v2 v3 v4 v5 v6 v7 v8 v9 v10 v11 v12, σ = [some (.ref sa), v1, v2, v3, v4, v5, v6, v7, v8, v9, v10, v11, v12] ∧ SqL K H' sa (sc.map V.int)) ⟨_, _, _, _, _, _, _, _, _, _, _, _, rfl, hs⟩ ?_ ?_⟩
    · rintro i σ H0 hi ⟨v1, v2, v3, v4, v5, v6, v7, v8, v9, v10, v11, v12, rfl, hs0⟩
      -- source
      refine ⟨_, rfl, _, rfl, sa, sc, _, rfl, hs0, by omega, by omega, fun j H1 nj e1 j1 => ?_⟩
      -- size
      refine ⟨_, rfl, j, _, _, rfl, j1, by decide, by decide, by decide, fun d1 H2 d1a d1b e2 j2 => ?_⟩
      refine ⟨_, rfl, j, _, _, rfl, j2, by decide, by decide, by decide, fun d2 H3 d2a d2b e3 j3 => ?_⟩
      refine ⟨(by show 3 ≤ sizeLine; decide), fun p4 H4 n4 e4 h4 => ?_⟩
      have n4j := j3.ne n4
      refine ⟨_, rfl, j, _, _, rfl, j3.ex e4, by decide, by decide, by decide, fun d3 H5 d3a d3b e5 j5 => ?_⟩
      have es : ∃ size : Int, atI [V.int d1, V.int d2, V.int 40] d3 = some (.int size) ∧ 0 ≤ size ∧ size ≤ 40 := by
        rcases (show d3 = 0 ∨ d3 = 1 ∨ d3 = 2 by omega) with z | z | z
        · exact ⟨d1, by rw [z]; exact at0, by omega, by omega⟩
        · exact ⟨d2, by rw [z]; exact at1, by omega, by omega⟩
        · exact ⟨40, by rw [z]; exact at2, by omega, by omega⟩
      obtain ⟨size, es, s0, s1⟩ := es
      refine ⟨_, _, _, _, rfl, rfl, sqI (e5 _ _ n4j h4), es, ?_⟩
      refine st_eq (σ' := [some (.ref sa), some (.int (0 + (i : Int))), some (.ref j), v3, v4, v5, v6, v7, v8, v9, v10, v11, v12]) (P := fun σ => gName 3 (.int size) σ H5 _) rfl ?_
      -- there
      obtain ⟨N, hN, N0, N1⟩ : ∃ N : Nat, (if size > 12 then size else 12) = (N : Int) ∧ size ≤ N ∧ N ≤ 40 := ⟨(if size > 12 then size else 12).toNat, by split <;> omega, by split <;> omega, by split <;> omega⟩
      refine ⟨_, rfl, _, rfl, _, _, rfl, ?_⟩
      rw [hN]
      refine ⟨_, rfl, RgOk.of_le (by omega) (by omega) (by omega) (by omega), fun p6 H6 n6 e6 h6 => ?_⟩
      have h6 : H6 p6 = some (.lst ((upN N).map V.int)) := h6.trans (by rw [rgV_upN])
      have j6 := j5.ex e6
      refine ⟨_, rfl, j, p6, size, _, upN N, rfl, j6, by decide, sqI h6, by rw [upN_len]; omega, by omega, by omega, fun A H7 ts ls nA x7 nAj j7 hA pm tl => ?_⟩
      rw [upN_len] at tl
      have tnd : ts.Nodup := (List.nodup_append.mp (pm.nodup_iff.mpr (upN_nodup N))).1
      have tin : ∀ r ∈ ts, 0 ≤ r ∧ r < 40 := fun r hr => by
        have := upN_mem (pm.mem_iff.mp (List.mem_append_left _ hr))
        omega
      have tl40 : ts.length ≤ 40 := by omega
      refine st_eq (σ' := [some (.ref sa), some (.int (0 + (i : Int))), some (.ref j), some (.int size), v4, v5, v6, v7, v8, v9, v10, v11, v12]) (P := fun σ => gName 4 (.ref A) σ H7 _) rfl ?_
      -- some_here
      refine ⟨_, rfl, _, rfl, _, rfl, _, rfl, _, _, rfl, rfl, j, _, _, rfl, j7, by decide, by omega, by omega, fun d8 H8 d8a d8b e8 j8 => ?_⟩
      refine ⟨j, A, d8, _, ts, rfl, j8, by decide, sqI (e8 _ _ nAj hA), by omega, by omega, by omega, fun p9 H9 t9 l9 n9 x9 n9j j9 h9 pm9 tl9 => ?_⟩
      have hA9 := x9 _ _ nAj (e8 _ _ nAj hA)
      refine ⟨_, rfl, _, _, rfl, .inl (sqI hA9), fun p10 H10 n10 e10 h10 => ?_⟩
      have hA10 := e10 _ _ hA9
      have sz : ∀ lo, (∀ b, lo = some b → 0 ≤ b) → (stepV (ts.map V.int) lo 2).length ≤ sizeLine := fun lo hlo => by
        rw [stepV_map, List.length_map]
        exact Nat.le_trans (nodup_len (step_nodup tnd hlo) fun r hr => step_mem hr) (Nat.le_trans tl40 (by decide))
      refine ⟨_, rfl, _, _, rfl, sqI hA10, sz none (fun b h => nomatch h), fun p11 H11 n11 e11 h11 => ?_⟩
      refine ⟨_, rfl, _, rfl, _, _, rfl, sqI (e11 _ _ hA10), sz (some 1) (fun b h => by cases h; decide), fun p12 H12 n12 e12 h12 => ?_⟩
      rw [stepV_map] at h11 h12
      refine ⟨(by show 4 ≤ sizeLine; decide), fun p13 H13 n13 e13 h13 => ?_⟩
      -- marks
      refine ⟨_, rfl, (by show 5 ≤ sizeLine; decide), fun p14 H14 n14 e14 h14 => ?_⟩
      have e914 := e10.trans (e11.trans (e12.trans (e13.trans e14)))
      have j14 := j9.ex e914
      have n14j := (j9.ex (e10.trans (e11.trans (e12.trans e13)))).ne n14
      refine ⟨_, rfl, j, _, _, rfl, j14, by decide, by decide, by decide, fun d15 H15 d15a d15b e15 j15 => ?_⟩
      have n13j := (j9.ex (e10.trans (e11.trans e12))).ne n13
      have n12j := (j9.ex (e10.trans e11)).ne n12
      have n11j := (j9.ex e10).ne n11
      have n10j := j9.ne n10
      obtain ⟨m0, e0, hm0⟩ : ∃ m0 : Nat, atI [V.int 0, .int 0, .int 1, .int 2, .int 3] d15 = some (.int (m0 : Int)) ∧ m0 < 4 := by
        rcases (show d15 = 0 ∨ d15 = 1 ∨ d15 = 2 ∨ d15 = 3 ∨ d15 = 4 by omega) with z | z | z | z | z
        · exact ⟨0, by rw [z]; rfl, by omega⟩
        · exact ⟨0, by rw [z]; rfl, by omega⟩
        · exact ⟨1, by rw [z]; rfl, by omega⟩
        · exact ⟨2, by rw [z]; rfl, by omega⟩
        · exact ⟨3, by rw [z]; rfl, by omega⟩
      obtain ⟨q0, ms0, eq0, hq0, nd0, sub0⟩ : ∃ (q0 : Addr) (ms0 : List Int), atI [V.ref p9, .ref p10, .ref p11, .ref p12] (m0 : Int) = some (.ref q0) ∧ H15 q0 = some (.lst (ms0.map V.int)) ∧ ms0.Nodup ∧ ∀ r ∈ ms0, r ∈ ts := by
        rcases (show m0 = 0 ∨ m0 = 1 ∨ m0 = 2 ∨ m0 = 3 by omega) with z | z | z | z
        · exact ⟨p9, t9, by rw [z]; rfl, e15 _ _ n9j (e914 _ _ h9), (List.nodup_append.mp (pm9.nodup_iff.mpr tnd)).1, fun r hr => pm9.subset (List.mem_append_left _ hr)⟩
        · exact ⟨p10, ts, by rw [z]; rfl, e15 _ _ n10j ((e11.trans (e12.trans (e13.trans e14))) _ _ h10), tnd, fun r hr => hr⟩
        · exact ⟨p11, _, by rw [z]; rfl, e15 _ _ n11j ((e12.trans (e13.trans e14)) _ _ h11), step_nodup tnd (fun b h => nomatch h), fun r hr => step_mem hr⟩
        · exact ⟨p12, _, by rw [z]; rfl, e15 _ _ n12j ((e13.trans e14) _ _ h12), step_nodup tnd (fun b h => by cases h; decide), fun r hr => step_mem hr⟩
      refine ⟨_, _, _, _, rfl, rfl, sqI (e15 _ _ n14j h14), e0, _, _, _, _, rfl, rfl, sqI (e15 _ _ n13j (e14 _ _ h13)), eq0, ?_⟩
      refine ⟨q0, ms0, rfl, sqI hq0, fun ms hp16 hs16 M H16 nM e16 hM => ?_⟩
      have pw : ms.Pairwise (· < ·) := asc_of hp16 hs16 nd0
      have sub : ∀ r ∈ ms, r ∈ ts := fun r hr => sub0 r (hp16.mem_iff.mp hr)
      have ml : ms.length ≤ 40 := Nat.le_trans (nodup_len (pw_nodup pw) sub) tl40
      have j16 := j15.ex e16
      have nMj := j15.ne nM
      have hA16 := e16 _ _ (e15 _ _ nAj (e914 _ _ hA9))
      refine st_eq (σ' := [some (.ref sa), some (.int (0 + (i : Int))), some (.ref j), some (.int size), some (.ref A), some (.ref p13), v6, v7, v8, v9, v10, v11, v12]) (P := fun σ => gName 6 (.ref M) σ H16 _) rfl ?_
      -- more
      refine ⟨_, rfl, (by show 2 ≤ sizeLine; decide), fun p17 H17 n17 e17 h17 => ?_⟩
      have hM17 := e17 _ _ hM
      have n17j := j16.ne n17
      refine ⟨_, rfl, _, _, rfl, .inl (sqI hM17), _, _, rfl, rfl, _, rfl, j, _, _, rfl, j16.ex e17, by decide, by decide, by decide, fun d18 H18 d18a d18b e18 j18 => ?_⟩
      obtain ⟨cut, hcut⟩ : ∃ cut : Nat, (if d18 < 40 - ((ms.map V.int).length : Int) then d18 else 40 - ((ms.map V.int).length : Int)) = (cut : Int) := by
        rw [List.length_map]
        exact ⟨(if d18 < 40 - (ms.length : Int) then d18 else 40 - (ms.length : Int)).toNat, by split <;> omega⟩
      refine ⟨_, _, rfl, ?_⟩
      rw [hcut]
      refine ⟨_, rfl, _, _, rfl, sqI (e18 _ _ n17j h17), fun p19 H19 n19 e19 h19 => ?_⟩
      have h19 : H19 p19 = some (.lst ((([50, 51] : List Int).take cut).map V.int)) := h19.trans (by rw [cut_to, List.map_take]; rfl)
      have hM19 := e19 _ _ (e18 _ _ nMj hM17)
      refine ⟨_, _, _, _, rfl, rfl, hM19, h19, ?_, fun p20 H20 n20 e20 h20 => ?_⟩
      · rw [List.length_map, List.length_map, List.length_take]
        exact Nat.le_trans (show _ ≤ 100 by simp only [List.length_cons, List.length_nil]; omega) (by decide)
      rw [← List.map_append] at h20
      refine ⟨p20, _, rfl, sqI h20, fun mo hp21 hs21 O H21 nO e21 hO => ?_⟩
      have ndm : (ms ++ ([50, 51] : List Int).take cut).Nodup := by
        rw [List.nodup_append]
        refine ⟨pw_nodup pw, List.Nodup.sublist (List.take_sublist _ _) (by decide), fun x hx y hy e => ?_⟩
        have h1 := tin x (sub x hx)
        have h2 : y ∈ ([50, 51] : List Int) := (List.take_sublist _ _).subset hy
        have h3 : y = 50 ∨ y = 51 := by simpa using h2
        omega
      have mop : mo.Pairwise (· < ·) := asc_of hp21 hs21 ndm
      have mol : mo.length ≤ 50 := by
        rw [hp21.length_eq, List.length_append, List.length_take]
        simp only [List.length_cons, List.length_nil]
        omega
      have mob : bordersL ts mo = bordersL ts ms := borders_congr fun r hr => by
        rw [hp21.mem_iff, List.mem_append]
        refine ⟨fun z => z.elim id fun y => ?_, .inl⟩
        have h1 := tin r hr
        have h2 : r ∈ ([50, 51] : List Int) := (List.take_sublist _ _).subset y
        have h3 : r = 50 ∨ r = 51 := by simpa using h2
        omega
      have x1621 : Exj j H16 H21 := (Exj.of e17).trans (e18.trans (Exj.of (e19.trans (e20.trans e21))))
      have hA21 := x1621 _ _ nAj hA16
      have hM21 := x1621 _ _ nMj hM
      have j21 := j18.ex (e19.trans (e20.trans e21))
      have nOj := (j18.ex (e19.trans e20)).ne nO
      refine st_eq (σ' := [some (.ref sa), some (.int (0 + (i : Int))), some (.ref j), some (.int size), some (.ref A), some (.ref p13), some (.ref M), v7, v8, v9, v10, v11, v12]) (P := fun σ => gName 7 (.ref O) σ H21 _) rfl ?_
      -- due
      refine ⟨_, rfl, _, rfl, A, M, ts, ms, rfl, sqI hA21, sqI hM21, by omega, fun Du H22 nDu e22 hDu => ?_⟩
      have hA22 := e22 _ _ hA21
      have hM22 := e22 _ _ hM21
      have hO22 := e22 _ _ hO
      -- told
      refine ⟨_, rfl, _, rfl, A, O, ts, mo, rfl, sqI hA22, sqI hO22, tnd, by omega, mop, by omega, fun pb H23 nb e23 hb => ?_⟩
      refine ⟨_, rfl, _, rfl, A, O, ts, mo, rfl, sqI (e23 _ _ hA22), sqI (e23 _ _ hO22), tnd, by omega, mop, by omega, fun pk H24 us24 nk e24 hk ak => ?_⟩
      have e2224 := e23.trans e24
      refine ⟨_, rfl, _, rfl, A, M, ts, ms, rfl, sqI (e2224 _ _ hA22), sqI (e2224 _ _ hM22), tnd, by omega, pw, by omega, sub, fun H25 e25 => ?_⟩
      refine ⟨(by show 3 ≤ sizeLine; decide), fun pt H26 nt e26 ht => ?_⟩
      rw [mob] at hb ak
      have e2226 := e2224.trans (e25.trans e26)
      have hb26 := (e24.trans (e25.trans e26)) _ _ hb
      have hk26 := (e25.trans e26) _ _ hk
      have ak26 : AllR (BkR K H26) us24 (blocksL (bordersL ts ms)) := ak.mono fun v x r => r.ex (e25.trans e26)
      have bl := borders_len ts ms
      have kl := blocks_len (bordersL ts ms)
      have shB : Shw (eL PyData.int (bordersL ts ms)) 3 400000 := (Shw.ints (b := 300) (by decide) fun r hr => by
        have := borders_in_ hr
        omega).mono (by decide) (by omega)
      have shK : Shw (eL eB (blocksL (bordersL ts ms))) 3 400000 := (bd_bk (n := ts.length) (by omega) fun k hk => blocks_in hk).mono (by decide) (by omega)
      have shC : Shw (PyData.int (costL ts ms)) 3 400000 := (Shw.int (log_of (cost_bd ts ms (by omega)))).mono (by decide) (by decide)
      have sh3 : Shw (PyData.tuple [eL PyData.int (bordersL ts ms), eL eB (blocksL (bordersL ts ms)), .int (costL ts ms)]) 60 sizeLine := (Shw.tuple (n := 3) (M := 400000) fun x hx => by
        have : x = eL PyData.int (bordersL ts ms) ∨ x = eL eB (blocksL (bordersL ts ms)) ∨ x = .int (costL ts ms) := by simpa using hx
        rcases this with e | e | e
        · rw [e]; exact shB
        · rw [e]; exact shK
        · rw [e]; exact shC).mono (by decide) (by simp only [List.length_cons, List.length_nil]; decide)
      have d3 : ∀ {H' : Hp} {t b q : Addr} {us : List V}, SqT K H' t [.ref b, .ref q, .int (costL ts ms)] → H' b = some (.lst ((bordersL ts ms).map V.int)) → H' q = some (.lst us) → AllR (BkR K H') us (blocksL (bordersL ts ms)) → Dp K H' (.ref t) (PyData.tuple [eL PyData.int (bordersL ts ms), eL eB (blocksL (bordersL ts ms)), .int (costL ts ms)]) := fun h1 h2 h3 h4 => .tup h1 (.cons (dpL (sqI h2)) (.cons (.lst (sqI h3) (h4.dp fun v x r => r.dp)) (.cons (.int _) .nil)))
      refine ⟨_, rfl, _, _, rfl, d3 (sqT ht) hb26 hk26 ak26, sh3, ?_⟩
      have hDu26 := e2226 _ _ hDu
      refine ⟨_, rfl, _, rfl, Du, _, rfl, sqI hDu26, by omega, fun pe H27 us27 ne e27 he ae => ?_⟩
      refine ⟨_, rfl, _, rfl, A, M, ts, ms, rfl, sqI ((e2226.trans e27) _ _ hA22), sqI ((e2226.trans e27) _ _ hM22), by omega, fun H28 e28 => ?_⟩
      refine ⟨(by show 3 ≤ sizeLine; decide), fun pf H29 nf e29 hf => ?_⟩
      have e2829 := e28.trans e29
      refine ⟨_, _, rfl, d3 (sqT hf) ((e27.trans e2829) _ _ hDu26) (e2829 _ _ he) (ae.mono fun v x r => r.ex e2829), sh3, rfl, _, rfl, ifF (nef rfl) ?_⟩
      -- spoilt
      have e2629 := e27.trans e2829
      have all29 : Ex H0 H29 := Exj.exOf e1 nj (e2.trans (e3.trans ((Exj.of e4).trans (e5.trans ((Exj.of e6).trans (x7.trans (e8.trans (x9.trans ((Exj.of e914).trans (e15.trans ((Exj.of e16).trans (x1621.trans (Exj.of (e22.trans (e2226.trans e2629)))))))))))))))
      have all22 : Ex H0 H22 := Exj.exOf e1 nj (e2.trans (e3.trans ((Exj.of e4).trans (e5.trans ((Exj.of e6).trans (x7.trans (e8.trans (x9.trans ((Exj.of e914).trans (e15.trans ((Exj.of e16).trans (x1621.trans (Exj.of e22)))))))))))))
      have nb0 : H0 pb = none := none_of all22 nb
      have nk0 : H0 pk = none := none_of (all22.trans e23) nk
      have j22 := j21.ex e22
      have nbA : A ≠ pb := ne_of_none hA22 nb
      have nbM : M ≠ pb := ne_of_none hM22 nb
      have nbO : O ≠ pb := ne_of_none hO22 nb
      have nbD : Du ≠ pb := ne_of_none hDu nb
      have nkA : A ≠ pk := ne_of_none (e23 _ _ hA22) nk
      have nkM : M ≠ pk := ne_of_none (e23 _ _ hM22) nk
      have nkO : O ≠ pk := ne_of_none (e23 _ _ hO22) nk
      have nkD : Du ≠ pk := ne_of_none (e23 _ _ hDu) nk
      have nkb : pk ≠ pb := (ne_of_none hb nk).symm
      have ntb : pt ≠ pb := (ne_of_none ((e24.trans e25) _ _ hb) nt).symm
      have njb : j ≠ pb := (j22.ne nb).symm
      have njk : j ≠ pk := ((j22.ex e23).ne nk).symm
      have hb29 := e2629 _ _ hb26
      have ht29 := e2629 _ _ ht
      have e2229 := e2226.trans e2629
      refine ⟨_, rfl, _, _, _, _, rfl, rfl, sqT ht29, at0, .inl ⟨rfl, _, sqI hb29⟩, _, _, _, rfl, rfl, hb29, ?_, ?_⟩
      · rw [List.length_map]
        exact Nat.lt_of_le_of_lt (show _ ≤ 1000 by omega) (by decide)
      have x30 : Exj pb H29 (upd H29 pb (.lst ((bordersL ts ms).map V.int ++ [V.int 9]))) := (Exj.refl _ _).upd
      generalize upd H29 pb (.lst ((bordersL ts ms).map V.int ++ [V.int 9])) = H30 at x30 ⊢
      have all30 := exj_of all29 nb0 x30
      have hk30 := x30 _ _ nkb (e2629 _ _ hk26)
      refine ⟨_, rfl, _, _, _, _, rfl, rfl, sqT (x30 _ _ ntb ht29), at1, .inl ⟨rfl, _, sqI hk30⟩, (by show 2 ≤ sizeLine; decide), fun p31 H31 n31 e31 h31 => ?_⟩
      refine ⟨_, _, _, rfl, rfl, e31 _ _ hk30, ?_, ?_⟩
      · rw [ak26.1]
        exact Nat.lt_of_le_of_lt (show _ ≤ 1000 by omega) (by decide)
      have x32 : Exj pk H31 (upd H31 pk (.lst (us24 ++ [.ref p31]))) := (Exj.refl _ _).upd
      generalize upd H31 pk (.lst (us24 ++ [.ref p31])) = H32 at x32 ⊢
      have all32 := exj_of (all30.trans e31) nk0 x32
      have to32 : ∀ {x : Addr} {o : HO}, H22 x = some o → x ≠ pb → x ≠ pk → H32 x = some o := fun h h1 h2 => x32 _ _ h2 (e31 _ _ (x30 _ _ h1 (e2229 _ _ h)))
      have hA32 := to32 hA22 nbA nkA
      have hM32 := to32 hM22 nbM nkM
      have hO32 := to32 hO22 nbO nkO
      have hD32 := to32 hDu nbD nkD
      have j32 : ∃ N, N ≤ 2 ^ 40 ∧ Jug H32 j N := by
        obtain ⟨x, y, z, hj, r⟩ := j22
        exact ⟨_, by decide, x, y, z, to32 hj njb njk, r⟩
      obtain ⟨N32, hN32, j32⟩ := j32
      have shB' := shB.mono (m := 60) (L := sizeLine) (by decide) (by decide)
      have shC' := shC.mono (m := 60) (L := sizeLine) (by decide) (by decide)
      clear shB shC shK sh3 d3
      refine st_eq (σ' := [some (.ref sa), some (.int (0 + (i : Int))), some (.ref j), some (.int size), some (.ref A), some (.ref p13), some (.ref M), some (.ref O), some (.ref Du), some (.ref pt), v10, v11, v12]) (P := fun σ => tSeq _ _ _ σ H32) rfl ?_
      -- again
      refine ⟨_, rfl, _, rfl, A, O, ts, mo, rfl, sqI hA32, sqI hO32, tnd, by omega, mop, by omega, fun p33 H33 n33 e33 h33 => ?_⟩
      rw [mob] at h33
      refine ⟨_, _, rfl, dpL (sqI h33), shB', _, rfl, _, _, rfl, dpL (sqI (e33 _ _ hD32)), shB', rfl, _, rfl, ifF (nef rfl) ?_⟩
      refine ⟨_, rfl, _, rfl, A, O, ts, mo, rfl, sqI (e33 _ _ hA32), sqI (e33 _ _ hO32), tnd, by omega, mop, by omega, fun p34 H34 us34 n34 e34 h34 a34 => ?_⟩
      rw [mob] at a34
      have e3234 := e33.trans e34
      refine ⟨_, rfl, Du, _, rfl, sqI (e3234 _ _ hD32), by omega, fun p35 H35 us35 n35 e35 h35 a35 => ?_⟩
      refine neE (goodL goodBk) (by decide) (x := blocksL (bordersL ts ms)) (y := blocksL (bordersL ts ms)) (.lst (sqI (e35 _ _ h34)) ((a34.mono fun v x r => r.ex e35).dp fun v x r => r.dp)) (.lst (sqI h35) (a35.dp fun v x r => r.dp)) ⟨_, rfl, ifF same ?_⟩
      have e3235 := e3234.trans e35
      -- cost
      refine ⟨_, rfl, _, rfl, A, M, ts, ms, rfl, sqI (e3235 _ _ hA32), sqI (e3235 _ _ hM32), tnd, by omega, pw, by omega, sub, fun H36 e36 => ?_⟩
      refine ⟨_, _, rfl, .int _, shC', _, rfl, _, rfl, A, M, ts, ms, rfl, sqI ((e3235.trans e36) _ _ hA32), sqI ((e3235.trans e36) _ _ hM32), by omega, fun H37 e37 => ?_⟩
      refine ⟨_, _, rfl, .int _, shC', rfl, _, rfl, ifF (nef rfl) ?_⟩
      have e3237 := e3235.trans (e36.trans e37)
      -- short
      refine ⟨_, rfl, _, rfl, _, _, rfl, sqI (e3237 _ _ hA32), fun Sh H38 nSh e38 hSh => ?_⟩
      rw [show (4 : Int) = ((4 : Nat) : Int) from rfl, cut_to, ← List.map_take] at hSh
      have e3238 := e3237.trans e38
      have all38 := all32.trans e3238
      have j38 := j32.ex e3238
      obtain ⟨sh, hsh⟩ : ∃ sh, sh = ts.take 4 := ⟨_, rfl⟩
      rw [← hsh] at hSh
      have shn : sh.Nodup := by rw [hsh]; exact tnd.sublist (List.take_sublist _ _)
      have shl : sh.length ≤ 4 := by rw [hsh, List.length_take]; omega
      have nSj : Sh ≠ j := (j32.ex e3237).ne nSh
      refine st_eq (σ' := [some (.ref sa), some (.int (0 + (i : Int))), some (.ref j), some (.int size), some (.ref A), some (.ref p13), some (.ref M), some (.ref O), some (.ref Du), some (.ref pt), v10, v11, v12]) (P := fun σ => gName 10 (.ref Sh) σ H38 _) rfl ?_
      refine ⟨_, rfl, rfl, _, rfl, ifB (fun c => ?_) (fun c => ?_)⟩
      · refine ⟨_, rfl, j, _, _, rfl, j38, by omega, by decide, by decide, fun d39 H39 d39a d39b x39 j39 => ?_⟩
        have all39 : Ex H0 H39 := Exj.exOf (Evl.Ex.refl _) nj (Exj.trans (Exj.of all38) x39)
        refine ⟨rfl, _, rfl, ifB (fun c => ?_) (fun c => ?_)⟩
        · have hSh39 := x39 _ _ nSj hSh
          refine ⟨_, rfl, (by show 1 ≤ sizeLine; decide), fun p40 H40 n40 e40 h40 => ?_⟩
          refine ⟨_, rfl, _, _, _, _, rfl, rfl, h40, e40 _ _ hSh39, ?_, fun p41 H41 n41 e41 h41 => ?_⟩
          · rw [List.length_map]
            exact Nat.le_trans (show _ ≤ 100 by simp only [List.length_cons, List.length_nil]; omega) (by decide)
          have hSh41 := (e40.trans e41) _ _ hSh39
          have j41 := j39.ex (e40.trans e41)
          have n41j := (j39.ex e40).ne n41
          refine ⟨_, rfl, _, rfl, _, _, rfl, .inl (sqI hSh41), _, _, rfl, rfl, j, _, _, rfl, j41, by omega, by rw [List.length_map]; omega, by rw [List.length_map]; omega, fun d42 H42 d42a d42b x42 j42 => ?_⟩
          rw [List.length_map] at d42b
          obtain ⟨n42, rfl⟩ : ∃ n : Nat, d42 = (n : Int) := ⟨d42.toNat, by omega⟩
          obtain ⟨ap, hap, han⟩ : ∃ ap : Option Nat, ([V.non] ++ sh.map V.int)[n42]? = some (anV (valA sh ap)) ∧ ∀ p, ap = some p → p < sh.length := by
            cases n42 with
            | zero => exact ⟨none, rfl, fun p e => nomatch e⟩
            | succ q =>
              refine ⟨some q, ?_, fun p e => by cases e; omega⟩
              show (sh.map V.int)[q]? = some (V.int (sh.getD q 0))
              rw [List.getElem?_map, get_row (show q < sh.length by omega)]
              rfl
          have all42 : Ex H0 H42 := Exj.exOf (Evl.Ex.refl _) nj (Exj.trans (Exj.of (all39.trans (e40.trans e41))) x42)
          refine ⟨_, _, _, _, rfl, rfl, sqI (x42 _ _ n41j h41), at_of (j := n42) (by omega) hap, ?_⟩
          have hSh42 := x42 _ _ nSj hSh41
          refine ⟨Sh, sh, ap, rfl, sqI hSh42, shn, shl, han, fun F H43 nF e43 dF => ?_⟩
          have chk := checked_at shl han
          unfold checkC at chk
          rw [Bool.and_eq_true, List.all_eq_true] at chk
          obtain ⟨chl, chm⟩ := chk
          have chl := of_decide_eq_true chl
          obtain ⟨tb, htb⟩ : ∃ tb, tb = (bfsC sh.length ap (sh.length + 2)).found := ⟨_, rfl⟩
          rw [← htb] at dF chl chm
          have hSh43 := e43 _ _ hSh42
          have all43 := all42.trans e43
          -- len(found)
          refine ⟨_, rfl, _, _, rfl, dF.rd, (by show 5 ≤ sizeLine; decide), fun p44 H44 n44 e44 h44 => ?_⟩
          have ckl : (kvF sh tb).length = 2 ^ sh.length := by
            unfold kvF
            rw [List.length_map]
            exact chl
          have at5 : atI [V.int 1, .int 2, .int 4, .int 8, .int 16] ((sh.map V.int).length : Nat) = some (.int ((2 ^ sh.length : Nat) : Int)) := by
            rw [List.length_map]
            rcases (show sh.length = 0 ∨ sh.length = 1 ∨ sh.length = 2 ∨ sh.length = 3 ∨ sh.length = 4 by omega) with z | z | z | z | z <;> rw [z] <;> rfl
          refine ⟨_, rfl, _, _, rfl, .inl (sqI (e44 _ _ hSh43)), _, _, _, _, rfl, rfl, sqI h44, at5, rfl, _, rfl, ifF (nef (by rw [ckl])) ?_⟩
          -- for own in found
          have dF44 : IsDN false K w H44 F (kvF sh tb) := dF.ex e44
          have all44 := all43.trans e44
          have nF0 : H0 F = none := none_of all42 nF
          obtain ⟨xs, hF, kn, kl2, hsys, knd⟩ := id dF44
          refine ⟨F, _, hF, True.intro, fun od => ?_⟩
          have xl : Exj F H44 (upd H44 F (.frz od (DNO w F xs))) := (Exj.refl _ _).upd
          have hl : upd H44 F (.frz od (DNO w F xs)) F = some (.frz od (DNO w F xs)) := upd_same
          have ntF := dF44.ntup
          have nSF : Sh ≠ F := dF44.ne_lst (e44 _ _ hSh43)
          have hShl := xl _ _ nSF (e44 _ _ hSh43)
          generalize upd H44 F (.frz od (DNO w F xs)) = HL at xl hl hShl ⊢
          refine ⟨_, rfl, F, od, xs, rfl, hl, hsys, for_keysN (fun i' σ H' => ∃ v12, σ = [some (.ref sa), some (.int (0 + (i : Int))), some (.ref j), some (.int size), some (.ref A), some (.ref p13), some (.ref M), some (.ref O), some (.ref Du), some (.ref pt), some (.ref Sh), some (.ref F), v12] ∧ Ex HL H') ⟨_, rfl, Evl.Ex.refl _⟩ (fun i' σ H' _ ⟨_, _, e⟩ => e _ _ hl) ?_ ?_⟩
          · rintro i' q σ H' hq ⟨v12, rfl, eL⟩
            have il : i' < (kvF sh tb).length := by rw [Paired.length kn]; exact (List.getElem?_eq_some_iff.mp hq).1
            have itb : i' < tb.length := by unfold kvF at il; rwa [List.length_map] at il
            have etb : tb[i']? = some (tb[i']'itb) := List.getElem?_eq_getElem itb
            obtain ⟨pr, hpr⟩ : ∃ pr, tb[i']? = some pr := ⟨_, etb⟩
            obtain ⟨fl, num⟩ := pr
            have ekv : (kvF sh tb)[i']? = some (keyM sh fl, V.int num) := by
              unfold kvF
              rw [List.getElem?_map, hpr]
              rfl
            obtain ⟨q', hq', e1', ⟨e2', e2d⟩, e3'⟩ := paired_get kn ekv
            rw [hq] at hq'
            cases hq'
            have cm := chm (fl, num) (List.mem_of_getElem? hpr)
            rw [Bool.and_eq_true] at cm
            have cl : fl.length = sh.length := by have := cm.1; simpa using this
            have cc : costC fl = num := of_decide_eq_true cm.2
            have sqo : SqT K H44 q.2.1 ((srtM sh fl).map V.int) := by
              cases e2' with
              | tup h1 h2 =>
                rw [NAll.ints_eq _ _ h2] at h1
                exact h1
            have sqo' : SqT K H' q.2.1 ((srtM sh fl).map V.int) := sqT_exN eL (sqT_keep xl ntF sqo)
            refine ⟨_, rfl, _, rfl, _, _, rfl, .inr sqo', fun p46 H46 n46 e46 h46 => ?_⟩
            have eL46 := eL.trans e46
            have sl2 := srt_len (fl := fl) shn cl
            refine ⟨Sh, p46, sh, srtM sh fl, rfl, sqI (eL46 _ _ hShl), sqI h46, shn, by omega, srt_asc shn cl, by omega, fun r hr => srt_sub hr, fun H47 e47 => ?_⟩
            rw [cost_srt shn cl, cc]
            have shN : Shw (PyData.int num) 60 sizeLine := by
              rw [← cc, ← cost_srt shn cl]
              exact (Shw.int (log_of (cost_bd sh (srtM sh fl) (by omega)))).mono (by decide) (by decide)
            refine ⟨_, _, rfl, .int _, shN, ?_⟩
            have eL47 := eL46.trans e47
            have kn47 : KN true K H47 (kvF sh tb) xs := (kn.map fun _ _ h => sqT_exN eL47 (sqT_keep xl ntF h)).up
            have sq47 : SqT K H47 q.2.1 ((srtM sh fl).map V.int) := sqT_exN (e46.trans e47) sqo'
            have rd : RdDN true K w H47 F (kvF sh tb) := ⟨xs, .inr ⟨od, eL47 _ _ hl⟩, kn47, kl2, hsys, knd⟩
            refine ⟨_, rfl, _, rfl, F, q.2.1, _, keyM sh fl, _, rfl, rfl, rd, NIs.up' (nis_m sq47), by rw [keyM_depth]; decide, valV_mem dF44.nodup (List.mem_of_getElem? ekv), ?_⟩
            refine ⟨_, _, rfl, .int _, shN, rfl, _, rfl, ifF (nef rfl) ?_⟩
            exact ⟨_, rfl, eL47⟩
          · rintro σ H' ⟨v12, rfl, eL⟩
            refine ⟨eL _ _ hl, _, _, _, _, _, _, _, _, _, _, _, _, rfl, Evl.ex_l (fun b o h => ?_) hs0⟩
            have bF : b ≠ F := ne_of_none h nF0
            rw [upd_ne bF]
            exact eL _ _ (xl _ _ bF (all44 _ _ h))
        · exact ⟨_, _, _, _, _, _, _, _, _, _, _, _, rfl, Evl.ex_l all39 hs0⟩
      · exact ⟨_, _, _, _, _, _, _, _, _, _, _, _, rfl, Evl.ex_l all38 hs0⟩
    · rintro σ H' ⟨v1, v2, v3, v4, v5, v6, v7, v8, v9, v10, v11, v12, rfl, hs'⟩
      exact k H'
end
end K27
set_option Elab.async false
set_option linter.all false
set_option maxRecDepth 100000
set_option maxHeartbeats 4000000
namespace K27
open PySem L2 My
theorem all_mk {K : PySem.W.Frag} {h : Heap} {mg : Str → Option Value} (X : K.In h) (G : h.Ns mainGlobals mg)
    {f0 : Addr} {od0 an0 : Option Addr} {sl0 : Array (Option Value)} {oc0 kV0 dc0 pm0 cd0 ct0 : Value}
    (a0 : PySem.W.nsIn K mainGlobals "check_there" = some (some (.ref f0))) (l0 : K.lookup f0 = some ⟨oc0, od0, .func (PySem.W.fnOf "check_there" "check_there" (defArgs s_check_there) (defBody s_check_there) (defScope s_check_there) .none kV0 dc0 pm0 an0 cd0 ct0), sl0⟩) (c0 : PySem.W.codeIn K cd0 "check_there" = true) (k0 : PySem.W.keepIn K (.ref f0) = true)
    {f1 : Addr} {od1 an1 : Option Addr} {sl1 : Array (Option Value)} {oc1 kV1 dc1 pm1 cd1 ct1 : Value}
    (a1 : PySem.W.nsIn K mainGlobals "are_marks" = some (some (.ref f1))) (l1 : K.lookup f1 = some ⟨oc1, od1, .func (PySem.W.fnOf "are_marks" "are_marks" (defArgs s_are_marks) (defBody s_are_marks) (defScope s_are_marks) .none kV1 dc1 pm1 an1 cd1 ct1), sl1⟩) (c1 : PySem.W.codeIn K cd1 "are_marks" = true) (k1 : PySem.W.keepIn K (.ref f1) = true)
    {f2 : Addr} {od2 an2 : Option Addr} {sl2 : Array (Option Value)} {oc2 kV2 dc2 pm2 cd2 ct2 : Value}
    (a2 : PySem.W.nsIn K mainGlobals "check_marks" = some (some (.ref f2))) (l2 : K.lookup f2 = some ⟨oc2, od2, .func (PySem.W.fnOf "check_marks" "check_marks" (defArgs s_check_marks) (defBody s_check_marks) (defScope s_check_marks) .none kV2 dc2 pm2 an2 cd2 ct2), sl2⟩) (c2 : PySem.W.codeIn K cd2 "check_marks" = true) (k2 : PySem.W.keepIn K (.ref f2) = true)
    {f3 : Addr} {od3 an3 : Option Addr} {sl3 : Array (Option Value)} {oc3 kV3 dc3 pm3 cd3 ct3 : Value}
    (a3 : PySem.W.nsIn K mainGlobals "check_marks_there" = some (some (.ref f3))) (l3 : K.lookup f3 = some ⟨oc3, od3, .func (PySem.W.fnOf "check_marks_there" "check_marks_there" (defArgs s_check_marks_there) (defBody s_check_marks_there) (defScope s_check_marks_there) .none kV3 dc3 pm3 an3 cd3 ct3), sl3⟩) (c3 : PySem.W.codeIn K cd3 "check_marks_there" = true) (k3 : PySem.W.keepIn K (.ref f3) = true)
    {f4 : Addr} {od4 an4 : Option Addr} {sl4 : Array (Option Value)} {oc4 kV4 dc4 pm4 cd4 ct4 : Value}
    (a4 : PySem.W.nsIn K mainGlobals "borders_in" = some (some (.ref f4))) (l4 : K.lookup f4 = some ⟨oc4, od4, .func (PySem.W.fnOf "borders_in" "borders_in" (defArgs s_borders_in) (defBody s_borders_in) (defScope s_borders_in) .none kV4 dc4 pm4 an4 cd4 ct4), sl4⟩) (c4 : PySem.W.codeIn K cd4 "borders_in" = true) (k4 : PySem.W.keepIn K (.ref f4) = true)
    {f5 : Addr} {od5 an5 : Option Addr} {sl5 : Array (Option Value)} {oc5 kV5 dc5 pm5 cd5 ct5 : Value}
    (a5 : PySem.W.nsIn K mainGlobals "blocks_of" = some (some (.ref f5))) (l5 : K.lookup f5 = some ⟨oc5, od5, .func (PySem.W.fnOf "blocks_of" "blocks_of" (defArgs s_blocks_of) (defBody s_blocks_of) (defScope s_blocks_of) .none kV5 dc5 pm5 an5 cd5 ct5), sl5⟩) (c5 : PySem.W.codeIn K cd5 "blocks_of" = true) (k5 : PySem.W.keepIn K (.ref f5) = true)
    {f6 : Addr} {od6 an6 : Option Addr} {sl6 : Array (Option Value)} {oc6 kV6 dc6 pm6 cd6 ct6 : Value}
    (a6 : PySem.W.nsIn K mainGlobals "cost_in" = some (some (.ref f6))) (l6 : K.lookup f6 = some ⟨oc6, od6, .func (PySem.W.fnOf "cost_in" "cost_in" (defArgs s_cost_in) (defBody s_cost_in) (defScope s_cost_in) .none kV6 dc6 pm6 an6 cd6 ct6), sl6⟩) (c6 : PySem.W.codeIn K cd6 "cost_in" = true) (k6 : PySem.W.keepIn K (.ref f6) = true)
    {f7 : Addr} {od7 an7 : Option Addr} {sl7 : Array (Option Value)} {oc7 kV7 dc7 pm7 cd7 ct7 : Value}
    (a7 : PySem.W.nsIn K mainGlobals "borders" = some (some (.ref f7))) (l7 : K.lookup f7 = some ⟨oc7, od7, .func (PySem.W.fnOf "borders" "borders" (defArgs s_borders) (defBody s_borders) (defScope s_borders) .none kV7 dc7 pm7 an7 cd7 ct7), sl7⟩) (c7 : PySem.W.codeIn K cd7 "borders" = true) (k7 : PySem.W.keepIn K (.ref f7) = true)
    {f8 : Addr} {od8 an8 : Option Addr} {sl8 : Array (Option Value)} {oc8 kV8 dc8 pm8 cd8 ct8 : Value}
    (a8 : PySem.W.nsIn K mainGlobals "blocks" = some (some (.ref f8))) (l8 : K.lookup f8 = some ⟨oc8, od8, .func (PySem.W.fnOf "blocks" "blocks" (defArgs s_blocks) (defBody s_blocks) (defScope s_blocks) .none kV8 dc8 pm8 an8 cd8 ct8), sl8⟩) (c8 : PySem.W.codeIn K cd8 "blocks" = true) (k8 : PySem.W.keepIn K (.ref f8) = true)
    {f9 : Addr} {od9 an9 : Option Addr} {sl9 : Array (Option Value)} {oc9 kV9 dc9 pm9 cd9 ct9 : Value}
    (a9 : PySem.W.nsIn K mainGlobals "cost" = some (some (.ref f9))) (l9 : K.lookup f9 = some ⟨oc9, od9, .func (PySem.W.fnOf "cost" "cost" (defArgs s_cost) (defBody s_cost) (defScope s_cost) .none kV9 dc9 pm9 an9 cd9 ct9), sl9⟩) (c9 : PySem.W.codeIn K cd9 "cost" = true) (k9 : PySem.W.keepIn K (.ref f9) = true)
    {f10 : Addr} {od10 an10 : Option Addr} {sl10 : Array (Option Value)} {oc10 kV10 dc10 pm10 cd10 ct10 : Value}
    (a10 : PySem.W.nsIn K mainGlobals "_law_source" = some (some (.ref f10))) (l10 : K.lookup f10 = some ⟨oc10, od10, .func (PySem.W.fnOf "_law_source" "_law_source" (defArgs s__law_source) (defBody s__law_source) (defScope s__law_source) .none kV10 dc10 pm10 an10 cd10 ct10), sl10⟩) (c10 : PySem.W.codeIn K cd10 "_law_source" = true) (k10 : PySem.W.keepIn K (.ref f10) = true)
    {f11 : Addr} {od11 an11 : Option Addr} {sl11 : Array (Option Value)} {oc11 kV11 dc11 pm11 cd11 ct11 : Value}
    (a11 : PySem.W.nsIn K mainGlobals "_law_draw" = some (some (.ref f11))) (l11 : K.lookup f11 = some ⟨oc11, od11, .func (PySem.W.fnOf "_law_draw" "_law_draw" (defArgs s__law_draw) (defBody s__law_draw) (defScope s__law_draw) .none kV11 dc11 pm11 an11 cd11 ct11), sl11⟩) (c11 : PySem.W.codeIn K cd11 "_law_draw" = true) (k11 : PySem.W.keepIn K (.ref f11) = true)
    {f12 : Addr} {od12 an12 : Option Addr} {sl12 : Array (Option Value)} {oc12 kV12 dc12 pm12 cd12 ct12 : Value}
    (a12 : PySem.W.nsIn K mainGlobals "_law_some" = some (some (.ref f12))) (l12 : K.lookup f12 = some ⟨oc12, od12, .func (PySem.W.fnOf "_law_some" "_law_some" (defArgs s__law_some) (defBody s__law_some) (defScope s__law_some) .none kV12 dc12 pm12 an12 cd12 ct12), sl12⟩) (c12 : PySem.W.codeIn K cd12 "_law_some" = true) (k12 : PySem.W.keepIn K (.ref f12) = true)
    {f13 : Addr} {od13 an13 : Option Addr} {sl13 : Array (Option Value)} {oc13 kV13 dc13 pm13 cd13 ct13 : Value}
    (a13 : PySem.W.nsIn K mainGlobals "_law_done" = some (some (.ref f13))) (l13 : K.lookup f13 = some ⟨oc13, od13, .func (PySem.W.fnOf "_law_done" "_law_done" (defArgs s__law_done) (defBody s__law_done) (defScope s__law_done) .none kV13 dc13 pm13 an13 cd13 ct13), sl13⟩) (c13 : PySem.W.codeIn K cd13 "_law_done" = true) (k13 : PySem.W.keepIn K (.ref f13) = true)
    {f14 : Addr} {od14 an14 : Option Addr} {sl14 : Array (Option Value)} {oc14 kV14 dc14 pm14 cd14 ct14 : Value}
    (a14 : PySem.W.nsIn K mainGlobals "_law_borders" = some (some (.ref f14))) (l14 : K.lookup f14 = some ⟨oc14, od14, .func (PySem.W.fnOf "_law_borders" "_law_borders" (defArgs s__law_borders) (defBody s__law_borders) (defScope s__law_borders) .none kV14 dc14 pm14 an14 cd14 ct14), sl14⟩) (c14 : PySem.W.codeIn K cd14 "_law_borders" = true) (k14 : PySem.W.keepIn K (.ref f14) = true)
    {f15 : Addr} {od15 an15 : Option Addr} {sl15 : Array (Option Value)} {oc15 kV15 dc15 pm15 cd15 ct15 : Value}
    (a15 : PySem.W.nsIn K mainGlobals "_law_cost" = some (some (.ref f15))) (l15 : K.lookup f15 = some ⟨oc15, od15, .func (PySem.W.fnOf "_law_cost" "_law_cost" (defArgs s__law_cost) (defBody s__law_cost) (defScope s__law_cost) .none kV15 dc15 pm15 an15 cd15 ct15), sl15⟩) (c15 : PySem.W.codeIn K cd15 "_law_cost" = true) (k15 : PySem.W.keepIn K (.ref f15) = true)
    {f16 : Addr} {od16 an16 : Option Addr} {sl16 : Array (Option Value)} {oc16 kV16 dc16 pm16 cd16 ct16 : Value}
    (a16 : PySem.W.nsIn K mainGlobals "_law_blocks" = some (some (.ref f16))) (l16 : K.lookup f16 = some ⟨oc16, od16, .func (PySem.W.fnOf "_law_blocks" "_law_blocks" (defArgs s__law_blocks) (defBody s__law_blocks) (defScope s__law_blocks) .none kV16 dc16 pm16 an16 cd16 ct16), sl16⟩) (c16 : PySem.W.codeIn K cd16 "_law_blocks" = true) (k16 : PySem.W.keepIn K (.ref f16) = true)
    {f17 : Addr} {od17 an17 : Option Addr} {sl17 : Array (Option Value)} {oc17 kV17 dc17 pm17 cd17 ct17 : Value}
    (a17 : PySem.W.nsIn K mainGlobals "_law_fewest" = some (some (.ref f17))) (l17 : K.lookup f17 = some ⟨oc17, od17, .func (PySem.W.fnOf "_law_fewest" "_law_fewest" (defArgs s__law_fewest) (defBody s__law_fewest) (defScope s__law_fewest) .none kV17 dc17 pm17 an17 cd17 ct17), sl17⟩) (c17 : PySem.W.codeIn K cd17 "_law_fewest" = true) (k17 : PySem.W.keepIn K (.ref f17) = true)
    {f18 : Addr} {od18 an18 : Option Addr} {sl18 : Array (Option Value)} {oc18 kV18 dc18 pm18 cd18 ct18 : Value}
    (a18 : PySem.W.nsIn K mainGlobals "law" = some (some (.ref f18))) (l18 : K.lookup f18 = some ⟨oc18, od18, .func (PySem.W.fnOf "law" "law" (defArgs s_law) (defBody s_law) (defScope s_law) .none kV18 dc18 pm18 an18 cd18 ct18), sl18⟩) (c18 : PySem.W.codeIn K cd18 "law" = true) (k18 : PySem.W.keepIn K (.ref f18) = true)
    {cD : Addr} {fI cI cdI : Addr} {ocI clI cclI : Value} {odI cldI cddI anI : Option Addr} {kVI docI pmI ctI : Value} {oslI cslI ccsI : Array (Option Value)} {vsI : Array Value} {flI : Str} {tfI : Tok} {cdD : ClassData}
    (aW : PySem.W.nsIn K mainGlobals "WindowError" = some (some (.ref cD))) (iI : PySem.W.findIn K (.ref cD) "__init__" = some (some (.ref fI)))
    (lI : K.lookup fI = some ⟨ocI, odI, .func (PySem.W.fnX "__init__" "WindowError.__init__" (defArgs s_init) (defBody s_init) (defScope s_init) [("__class__", cI)] .none kVI docI pmI anI (.ref cdI) ctI), oslI⟩) (qI : PySem.W.codeIn K (.ref cdI) "WindowError.__init__" = true)
    (ceI : K.lookup cI = some ⟨clI, cldI, .cell (some (.ref cD)), cslI⟩) (fiI : K.lookup cdI = some ⟨cclI, cddI, .fields vsI, ccsI⟩) (viI : vsI[2]? = some (.str flI tfI)) (wiI : ((PR.main.file : Str) == flI) = true) (clD : PySem.W.clsIn K cD = some cdD) (suI : PySem.W.nsIn K mainGlobals "super" = some none)
    (opI : PySem.W.nsIn K cStatics "thirdparty.any" = some none) (tyI : PySem.W.typeIn K (.ref fI) = some (.type "function"))
    {e0 : Addr} {nme0 qe0 : Str} {Ne0 : Addr} {bse0 : List Value} {sne0 : List Str} {sube0 : List Value} {abe0 : Bool} {cole0 : Option Bool} {dde0 : Option Addr} {m0e0 m1e0 m2e0 m3e0 m5e0 : Option Value}
    (aCe0 : PySem.W.nsIn K mainGlobals "WindowError" = some (some (.ref e0))) (xLe0 : K.lookup e0 = some (excClassObj nme0 qe0 e0 Ne0 bse0 PySem.HandSPX.veTail true sne0 sube0 abe0 cole0 dde0 m0e0 m1e0 m2e0 m3e0 m5e0 "ValueError.__new__")) (rve0 : e0 = cD)
    (sae0 : PySem.W.findIn K (.ref e0) "__setattr__" = some (some (.builtin "object.__setattr__"))) (gae0 : PySem.W.findIn K (.ref e0) "__getattribute__" = some (some (.builtin "BaseException.__getattribute__"))) (gge0 : PySem.W.findIn K (.ref e0) "__getattr__" = some none) (nve0 : PySem.W.findIn K (.ref e0) "value" = some none) (ine0 : PySem.W.findIn K (.ref e0) "__init__" = some (some (.ref fI)))
    (kCe0 : PySem.W.keepIn K (.ref e0) = true) (eCe0 : PySem.W.subIn K (.ref e0) (.type "BaseException") = some true) (tCe0 : PySem.W.typeIn K (.ref e0) = some (.type "type")) (hCe0 : PySem.W.hasDictIn K e0 = true) (mre0 : PySem.W.mroIn K e0 (.ref cD) = some true) (ice0 : PySem.W.isClsIn K e0 = true) (sve0 : PySem.W.subIn K (.ref e0) (.type "ValueError") = some true)
    {e1 : Addr} {nme1 qe1 : Str} {Ne1 : Addr} {bse1 : List Value} {sne1 : List Str} {sube1 : List Value} {abe1 : Bool} {cole1 : Option Bool} {dde1 : Option Addr} {m0e1 m1e1 m2e1 m3e1 m5e1 : Option Value}
    (aCe1 : PySem.W.nsIn K mainGlobals "InvalidRows" = some (some (.ref e1))) (xLe1 : K.lookup e1 = some (excClassObj nme1 qe1 e1 Ne1 bse1 (.ref cD :: PySem.HandSPX.veTail) true sne1 sube1 abe1 cole1 dde1 m0e1 m1e1 m2e1 m3e1 m5e1 "ValueError.__new__")) (rve1 : (e1 == cD) = false)
    (sae1 : PySem.W.findIn K (.ref e1) "__setattr__" = some (some (.builtin "object.__setattr__"))) (gae1 : PySem.W.findIn K (.ref e1) "__getattribute__" = some (some (.builtin "BaseException.__getattribute__"))) (gge1 : PySem.W.findIn K (.ref e1) "__getattr__" = some none) (nve1 : PySem.W.findIn K (.ref e1) "value" = some none) (ine1 : PySem.W.findIn K (.ref e1) "__init__" = some (some (.ref fI)))
    (kCe1 : PySem.W.keepIn K (.ref e1) = true) (eCe1 : PySem.W.subIn K (.ref e1) (.type "BaseException") = some true) (tCe1 : PySem.W.typeIn K (.ref e1) = some (.type "type")) (hCe1 : PySem.W.hasDictIn K e1 = true) (mre1 : PySem.W.mroIn K e1 (.ref cD) = some true) (ice1 : PySem.W.isClsIn K e1 = true) (sve1 : PySem.W.subIn K (.ref e1) (.type "ValueError") = some true)
    {e2 : Addr} {nme2 qe2 : Str} {Ne2 : Addr} {bse2 : List Value} {sne2 : List Str} {sube2 : List Value} {abe2 : Bool} {cole2 : Option Bool} {dde2 : Option Addr} {m0e2 m1e2 m2e2 m3e2 m5e2 : Option Value}
    (aCe2 : PySem.W.nsIn K mainGlobals "InvalidMarks" = some (some (.ref e2))) (xLe2 : K.lookup e2 = some (excClassObj nme2 qe2 e2 Ne2 bse2 (.ref cD :: PySem.HandSPX.veTail) true sne2 sube2 abe2 cole2 dde2 m0e2 m1e2 m2e2 m3e2 m5e2 "ValueError.__new__")) (rve2 : (e2 == cD) = false)
    (sae2 : PySem.W.findIn K (.ref e2) "__setattr__" = some (some (.builtin "object.__setattr__"))) (gae2 : PySem.W.findIn K (.ref e2) "__getattribute__" = some (some (.builtin "BaseException.__getattribute__"))) (gge2 : PySem.W.findIn K (.ref e2) "__getattr__" = some none) (nve2 : PySem.W.findIn K (.ref e2) "value" = some none) (ine2 : PySem.W.findIn K (.ref e2) "__init__" = some (some (.ref fI)))
    (kCe2 : PySem.W.keepIn K (.ref e2) = true) (eCe2 : PySem.W.subIn K (.ref e2) (.type "BaseException") = some true) (tCe2 : PySem.W.typeIn K (.ref e2) = some (.type "type")) (hCe2 : PySem.W.hasDictIn K e2 = true) (mre2 : PySem.W.mroIn K e2 (.ref cD) = some true) (ice2 : PySem.W.isClsIn K e2 = true) (sve2 : PySem.W.subIn K (.ref e2) (.type "ValueError") = some true)
    (z_len : PySem.W.nsIn K mainGlobals "len" = some none)
    (z_set : PySem.W.nsIn K mainGlobals "set" = some none)
    (z_list : PySem.W.nsIn K mainGlobals "list" = some none)
    (z_all : PySem.W.nsIn K mainGlobals "all" = some none)
    (z_zip : PySem.W.nsIn K mainGlobals "zip" = some none)
    (z_range : PySem.W.nsIn K mainGlobals "range" = some none)
    (z_sum : PySem.W.nsIn K mainGlobals "sum" = some none)
    (z_max : PySem.W.nsIn K mainGlobals "max" = some none)
    (z_int : PySem.W.nsIn K mainGlobals "int" = some none)
    (z_min : PySem.W.nsIn K mainGlobals "min" = some none)
    (z_dict : PySem.W.nsIn K mainGlobals "dict" = some none)
    (z_sorted : PySem.W.nsIn K mainGlobals "sorted" = some none)
    (z_tuple : PySem.W.nsIn K mainGlobals "tuple" = some none)
    (z_repr : PySem.W.nsIn K mainGlobals "repr" = some none)
    : ∃ T : Txt K mg, T.d_law = PySem.W.fnOf "law" "law" (defArgs s_law) (defBody s_law) (defScope s_law) .none kV18 dc18 pm18 an18 cd18 ct18 ∧ T.a_law = f18 :=
  ⟨⟨f0, _, fun_mk (st := s_check_there) l0 c0 k0, PySem.W.mg_of X G a0, f1, _, fun_mk (st := s_are_marks) l1 c1 k1, PySem.W.mg_of X G a1, f2, _, fun_mk (st := s_check_marks) l2 c2 k2, PySem.W.mg_of X G a2, f3, _, fun_mk (st := s_check_marks_there) l3 c3 k3, PySem.W.mg_of X G a3, f4, _, fun_mk (st := s_borders_in) l4 c4 k4, PySem.W.mg_of X G a4, f5, _, fun_mk (st := s_blocks_of) l5 c5 k5, PySem.W.mg_of X G a5, f6, _, fun_mk (st := s_cost_in) l6 c6 k6, PySem.W.mg_of X G a6, f7, _, fun_mk (st := s_borders) l7 c7 k7, PySem.W.mg_of X G a7, f8, _, fun_mk (st := s_blocks) l8 c8 k8, PySem.W.mg_of X G a8, f9, _, fun_mk (st := s_cost) l9 c9 k9, PySem.W.mg_of X G a9, f10, _, fun_mk (st := s__law_source) l10 c10 k10, PySem.W.mg_of X G a10, f11, _, fun_mk (st := s__law_draw) l11 c11 k11, PySem.W.mg_of X G a11, f12, _, fun_mk (st := s__law_some) l12 c12 k12, PySem.W.mg_of X G a12, f13, _, fun_mk (st := s__law_done) l13 c13 k13, PySem.W.mg_of X G a13, f14, _, fun_mk (st := s__law_borders) l14 c14 k14, PySem.W.mg_of X G a14, f15, _, fun_mk (st := s__law_cost) l15 c15 k15, PySem.W.mg_of X G a15, f16, _, fun_mk (st := s__law_blocks) l16 c16 k16, PySem.W.mg_of X G a16, f17, _, fun_mk (st := s__law_fewest) l17 c17 k17, PySem.W.mg_of X G a17, f18, _, fun_mk (st := s_law) l18 c18 k18, PySem.W.mg_of X G a18, fI, cI, cdI, cD, _, ⟨⟨_, _, _, _, _, _, _, _, rfl, lI⟩, qI, ⟨_, _, _, ceI⟩, ⟨_, _, _, _, _, _, fiI, viI, wiI⟩, ⟨_, clD⟩, PySem.W.mg_none_of X G suI, by rfl, opI⟩, e0, ⟨⟨⟨_, _, _, _, _, _, _, _, _, _, _, _, _, _, _, xLe0, rfl⟩, sae0, eCe0, tCe0, kCe0⟩, ine0, tyI, nve0, mre0, sup_self xLe0 rve0, sve0, ⟨gae0, gge0, eCe0, hCe0⟩⟩, PySem.W.mg_of X G aCe0, e1, ⟨⟨⟨_, _, _, _, _, _, _, _, _, _, _, _, _, _, _, xLe1, rfl⟩, sae1, eCe1, tCe1, kCe1⟩, ine1, tyI, nve1, mre1, sup_child xLe1 rve1, sve1, ⟨gae1, gge1, eCe1, hCe1⟩⟩, PySem.W.mg_of X G aCe1, e2, ⟨⟨⟨_, _, _, _, _, _, _, _, _, _, _, _, _, _, _, xLe2, rfl⟩, sae2, eCe2, tCe2, kCe2⟩, ine2, tyI, nve2, mre2, sup_child xLe2 rve2, sve2, ⟨gae2, gge2, eCe2, hCe2⟩⟩, PySem.W.mg_of X G aCe2, PySem.W.mg_none_of X G z_len, PySem.W.mg_none_of X G z_set, PySem.W.mg_none_of X G z_list, PySem.W.mg_none_of X G z_all, PySem.W.mg_none_of X G z_zip, PySem.W.mg_none_of X G z_range, PySem.W.mg_none_of X G z_sum, PySem.W.mg_none_of X G z_max, PySem.W.mg_none_of X G z_int, PySem.W.mg_none_of X G z_min, PySem.W.mg_none_of X G z_dict, PySem.W.mg_none_of X G z_sorted, PySem.W.mg_none_of X G z_tuple, PySem.W.mg_none_of X G z_repr⟩, rfl, rfl⟩
theorem walk {l : PySem.W.OpenLaw} {q : Program} {loose : List Str} {XP : (Str → Option Value) → Heap → Prop} {YP : World → Heap → Prop} {d : DefRec} {K : Params → PySem.W.Frag} (hn : l.most = some 63) (hdf : d.params.defaults = [])
    (hY : ∀ (w : World) (h : Heap), YP w h → (K w.params).In h)
    (F : ∀ (w : World) (mg : Str → Option Value) (fa : Addr) (h : Heap), (K w.params).In h → h.Ns mainGlobals mg → mg d.name = some (.ref fa) →
      ∃ fd : FuncData, (∀ (s : Shared) (u : Value), BindsTo s fd ⟨[u], []⟩ [("_law_script", u)]) ∧ ∀ base : Heap, (K w.params).In base → base.Ns mainGlobals mg → FnOkG l.prog w (K w.params) mg base CX0 5 fa fd ["_law_script"] (sp_law (K w.params))) :
    PySem.W.WalkO q loose XP YP l.row.toRowW d [] (fun f vs => PySem.call f vs) :=
  My.walk_ofG (n := 63) (k := 5) (x := "_law_script") (CX := fun _ => CX0) (sp := fun w => sp_law (K w.params)) hn (by decide) hdf ⟨rfl, by decide, by decide⟩ hY F (fun _ _ a ns hl _ hS => ⟨a, ns, rfl, hS, hl, fun _ => rfl⟩) fun _ _ _ _ _ z => z
end K27
open PySem PySem.W PyProof.Rows
set_option maxRecDepth 100000 in
set_option maxHeartbeats 0 in
theorem PySem.Challenge.cw_listwindow_k27_borders_blocks_and_costs_holds : PySem.Challenge.rw_listwindow_k27_borders_blocks_and_costs.Holds := by
  w_on; o_law; k_head; (case hw => w_witness2)
  k_fill
  refine K27.walk (l := PySem.Challenge.rw_listwindow_k27_borders_blocks_and_costs) rfl rfl (fun w h Y => PySem.W.kIn_of Y) ?F
  case F =>
    intro w mg fa h KX G hmg
    have T : ∃ T : K27.Txt _ mg, _ ∧ _ := K27.all_mk KX G (by k_is) (by k_is) (by k_is) (by k_is) (by k_is) (by k_is) (by k_is) (by k_is) (by k_is) (by k_is) (by k_is) (by k_is) (by k_is) (by k_is) (by k_is) (by k_is) (by k_is) (by k_is) (by k_is) (by k_is) (by k_is) (by k_is) (by k_is) (by k_is) (by k_is) (by k_is) (by k_is) (by k_is) (by k_is) (by k_is) (by k_is) (by k_is) (by k_is) (by k_is) (by k_is) (by k_is) (by k_is) (by k_is) (by k_is) (by k_is) (by k_is) (by k_is) (by k_is) (by k_is) (by k_is) (by k_is) (by k_is) (by k_is) (by k_is) (by k_is) (by k_is) (by k_is) (by k_is) (by k_is) (by k_is) (by k_is) (by k_is) (by k_is) (by k_is) (by k_is) (by k_is) (by k_is) (by k_is) (by k_is) (by k_is) (by k_is) (by k_is) (by k_is) (by k_is) (by k_is) (by k_is) (by k_is) (by k_is) (by k_is) (by k_is) (by k_is) (by k_is) (by k_is) (by k_is) (by k_is) (by k_is) (by k_is) (by rfl) (by decide +kernel) (by k_is) (by k_is) (by k_is) (by k_is) (by k_is) (by k_is) (by rfl) (by k_is) (by k_is) (by k_is) (by k_is) (by k_is) (by k_is) (by k_is) (by k_is) (by k_is) (by k_is) (by k_is) (by k_is) (by k_is) (by k_is) (by rfl) (by k_is) (by k_is) (by k_is) (by k_is) (by k_is) (by k_is) (by k_is) (by k_is) (by k_is) (by k_is) (by k_is) (by k_is) (by k_is) (by k_is) (by rfl) (by k_is) (by k_is) (by k_is) (by k_is) (by k_is) (by k_is) (by k_is) (by k_is) (by k_is) (by k_is) (by k_is) (by k_is) (by k_is) (by k_is) (by k_is) (by k_is) (by k_is) (by k_is) (by k_is) (by k_is) (by k_is) (by k_is) (by k_is) (by k_is) (by k_is) (by k_is)
    obtain ⟨T, e1, e2⟩ := T
    have e3 := hmg.symm.trans T.g_law
    cases e3
    exact ⟨T.d_law, fun s v => by rw [e1]; exact .of_eq rfl, fun base _ _ => K27.ok_law T⟩
#print axioms PySem.Challenge.cw_listwindow_k27_borders_blocks_and_costs_holds

