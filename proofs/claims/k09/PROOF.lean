import PyProof.Rows.All
import Wide.All
import OpenK.AllK
import Wide.FinOn
import HandS.ForMost
import HandS.Wide
import HandS.Style
import HandS.SortInts
import HandS.IsInst
import HandS.Evl
import HandS.Walk
import HandS.ForExc
import HandS.ExcInit
import HandS.ExcField
import HandS.ExcSuper
import HandS.Nested
import KE.KExcSuper
import HandS.Zip
import HandS.Sort
import PyProof.ReprRoads
import HandS.DictTup
import HandS.Set
import HandS.Dict
import HandS.DictComp
import HandS.NoneIn
import HandS.Conv
import HandS.OwnEq
import HandS.Property
import KE.SortKeyed
import HandS.SortOrd
import HandS.SetFor
import HandS.Strs
import HandS.Star
import KE.SortData
import KE.GoesEnum
import PySem.Challenge.RW_listwindow_k09_forms_of_clicks_done
set_option Elab.async false
set_option linter.all false
set_option maxRecDepth 100000
set_option maxHeartbeats 4000000
/-! My own rules over the hand layer: calls by keywords alone, powers of great ints, what a heap keeps. -/
namespace My
open PySem PySem.Spec PyProof.Rows L2
/-! ### calls by keywords -/
def kg (n m : Nat) (π : List Nat) {α : Type} (us ws : List α) : List α := if us.length = n ∧ ws.length = m then π.filterMap (fun i => (us ++ ws)[i]?) else []
theorem vals_pick {xs : List V} {us : List Value} (r : Vals xs us) : ∀ (π : List Nat), Vals (π.filterMap (fun i => xs[i]?)) (π.filterMap (fun i => us[i]?))
  | [] => .nil
  | i :: π => by
    have ih := vals_pick r π
    cases e : xs[i]? with
    | none =>
      rw [List.filterMap_cons, e, List.filterMap_cons, r.none_of e]
      exact ih
    | some x =>
      obtain ⟨u, h1, h2⟩ := r.get e
      rw [List.filterMap_cons, e, List.filterMap_cons, h1]
      exact .cons h2 ih
theorem kg_rel {n m : Nat} {π : List Nat} {vs zs : List V} {us ws : List Value} (r : Vals vs us) (rz : Vals zs ws) : Vals (kg n m π vs zs) (kg n m π us ws) := by
  unfold kg
  rw [r.length, rz.length]
  split
  · exact vals_pick (r.append rz) π
  · exact .nil
theorem kbinds {K : PySem.W.Frag} {x qual : Str} {st : Stmt} {f : Addr} {fd : FuncData} {ps ks : List Str} (n m : Nat) (π : List Nat) (F : Fun K x qual st f fd) (hp : 0 < ps.length)
    (h : ∀ (kV doc pm : Value) (an : Option Addr) (cdv ct : Value) (us ws : List Value), us.length = n → ws.length = m → bindArgs (PySem.W.fnOf x qual (defArgs st) (defBody st) (defScope st) .none kV doc pm an cdv ct) ⟨us, ks.zip ws⟩ = pure (ps.zip (kg n m π us ws))) : KBinds K fd ps ks (kg n m π) (kg n m π) := by
  obtain ⟨oc, od, kV, doc, pm, an, cdv, ct, osl, rfl, lk, hcd⟩ := F.ex
  refine ⟨fun s us ws _ hl => ?_, fun r rz => kg_rel r rz⟩
  by_cases z : us.length = n ∧ ws.length = m
  · exact .of_eq (h kV doc pm an cdv ct us ws z.1 z.2)
  · unfold kg at hl
    rw [if_neg z] at hl
    rw [← hl] at hp
    exact absurd hp (Nat.lt_irrefl _)
section
variable {X : Cx} {CX : CXT} {k : Nat} {f C : Addr} {fd : FuncData} {ps ks : List Str} {sp : Sp} {E : XK} {x m : Str} {p pos apos kpos : Pos} {kws : List Keyword} {tk : TA} {g : List Value → List Value → List Value} {gV : List V → List V → List V}
/-- f(k = v, ..) -/
theorem pe_callK0 (F : FnOk X.prog X.w X.K X.mg X.base CX k f fd ps sp) (hr : Room k X.A) (hg : Gl X x) (hm : X.mg x = some (.ref f)) (hk : PySem.W.keepIn X.K (.ref f) = true) (hb : KBinds X.K fd ps ks g gV) (hx : Passes CX X E)
    (hkw : PK X kws tk) (hall : (backToKw pos (keywordEach kws X.env)).all (·.1.isSome) = true := by rfl) (hks : (backToKw pos (keywordEach kws X.env)).filterMap (·.1) = ks := by rfl)
    (hdb : (x == ("__debug__" : Str)) = false := by decide)
    (hpl : ((backTo pos (starEach [] X.env)).any (·.1) || (backToKw pos (keywordEach kws X.env)).any (·.1.isNone)) = false := by rfl) :
    PE X (.Call (.Name x p) [] kws pos) (tCallK sp gV E tNil tk) := by
  refine ⟨fun pins s σ H Q I h => ?_⟩
  refine wpAny_Call_Name_kw (ld_glob I hg hm ?_ hdb)
  refine PySem.W.callWith_KW0 (h₀ := X.base) I.ok.mod.kin hk hall ?_ hpl
  refine thn (hkw.run pos pins s σ H _ I h) fun ws s2 ⟨zs, H2, I2, rz, q2⟩ => ⟨I2.kIn, ?_⟩
  rw [hks]
  exact run_fnk (us := []) (vs := []) F hr hb hx I2 .nil rz q2
end
/-! ### powers of great ints -/
/-- a power of together at most 2 ^ 27 bits -/
def CPowW (i j : Int) : Prop := 0 ≤ j ∧ ((i.natAbs.log2 : Int) + 1) * j ≤ 2 ^ 27
theorem bits_le (x : Int) : (Builtin.Int.intBits x : Int) ≤ (x.natAbs.log2 : Int) + 1 := by
  unfold Builtin.Int.intBits
  split <;> omega
theorem op_powW {X : Cx} : OpR X (binaryOp .Pow) (rI CPowW fun i j => .int (i ^ j.toNat)) := opI fun i j _ _ _ _ _ hc q =>
  pow_int hc.1 (Int.le_trans (Int.mul_le_mul_of_nonneg_right (bits_le i) hc.1) hc.2) q
theorem powW_of {i : Int} {j : Nat} {a : Nat} (h : i.natAbs < 2 ^ a) (h0 : 0 < a) (hj : a * j ≤ 2 ^ 27) : CPowW i (j : Int) := by
  have := PySem.Flt.log2_lt_of h0 h
  refine ⟨Int.natCast_nonneg _, ?_⟩
  have e : ((i.natAbs.log2 : Int) + 1) * (j : Int) = (((i.natAbs.log2 + 1) * j : Nat) : Int) := by
    rw [Int.natCast_mul]
    rfl
  rw [e]
  have : (i.natAbs.log2 + 1) * j ≤ a * j := Nat.mul_le_mul_right _ this
  have : (i.natAbs.log2 + 1) * j ≤ 2 ^ 27 := Nat.le_trans this hj
  omega
/-! ### heaps -/
abbrev Ex := Evl.Ex
/-- all but the object at j is as it was -/
def Exj (j : Addr) (H H' : Hp) : Prop := ∀ b o, b ≠ j → H b = some o → H' b = some o
theorem Exj.refl (j : Addr) (H : Hp) : Exj j H H := fun _ _ _ h => h
theorem Exj.trans {j : Addr} {H H1 H2 : Hp} (a : Exj j H H1) (b : Exj j H1 H2) : Exj j H H2 := fun x o n h => b x o n (a x o n h)
theorem Exj.of {j : Addr} {H H' : Hp} (a : Ex H H') : Exj j H H' := fun x o _ h => a x o h
theorem Exj.upd {j : Addr} {H H' : Hp} {o : HO} (a : Exj j H H') : Exj j H (upd H' j o) := fun x u n h => by
  rw [upd_ne n]
  exact a x u n h
theorem Exj.new {j p : Addr} {H H' : Hp} {o : HO} (a : Exj j H H') (h : H' p = none) : Exj j H (L2.upd H' p o) := fun x u n e => by
  have := a x u n e
  rw [upd_ne (ne_of_none this h)]
  exact this
theorem Exj.sq {K : PySem.W.Frag} {j : Addr} {H H' : Hp} {a : Addr} {xs : List V} (e : Exj j H H') (n : a ≠ j) (h : SqL K H a xs) : SqL K H' a xs := by
  rcases h with (h | ⟨o, h⟩) | h
  · exact .inl (.inl (e _ _ n h))
  · exact .inl (.inr ⟨o, e _ _ n h⟩)
  · exact .inr h
/-- a new object, its heap by name -/
theorem newO {H : Hp} {o : HO} {P : V → Hp → Prop} (k : ∀ p H', H p = none → Ex H H' → H' p = some o → P (.ref p) H') : ∀ p, H p = none → P (.ref p) (L2.upd H p o) := fun p hp => k p _ hp (Evl.Ex.new hp) upd_same
theorem sqI {K : PySem.W.Frag} {H : Hp} {a : Addr} {xs : List V} (h : H a = some (.lst xs)) : SqL K H a xs := .inl (.inl h)
theorem sqT {K : PySem.W.Frag} {H : Hp} {a : Addr} {xs : List V} (h : H a = some (.tup xs)) : SqT K H a xs := .inl (.inl h)
/-! ### data: how a thing of Lean stands in the heap -/
/-- a way of writing things as data: it can be laid, it is no deeper than n, equal data are equal things -/
structure Good {α : Type} [DecidableEq α] (e : α → PyData) (n : Nat) : Prop where
  lay : ∀ x, (e x).canLay0 = true
  dep : ∀ x, (e x).depth ≤ n
  eqv : ∀ x y, PyData.eqv (e x) (e y) = decide (x = y)
def eL {α : Type} (e : α → PyData) (xs : List α) : PyData := .list (xs.map e)
def eT {α : Type} (e : α → PyData) (xs : List α) : PyData := .tuple (xs.map e)
def eP {α β : Type} (e : α → PyData) (f : β → PyData) (p : α × β) : PyData := .tuple [e p.1, f p.2]
theorem goodI : Good PyData.int 0 := ⟨fun _ => rfl, fun _ => Nat.le_refl _, fun x y => by
  show (x == y) = _
  rw [Bool.eq_iff_iff]
  simp⟩
theorem goodB : Good PyData.bool 0 := ⟨fun _ => rfl, fun _ => Nat.le_refl _, fun x y => by
  show (x == y) = _
  rw [Bool.eq_iff_iff]
  simp⟩
section
variable {α β : Type} [DecidableEq α] [DecidableEq β] {e : α → PyData} {f : β → PyData} {n m : Nat}
theorem Good.layAll (g : Good e n) : ∀ xs : List α, PyData.canLayAll0 (xs.map e) = true
  | [] => rfl
  | x :: xs => by
    show (PyData.canLay0 (e x) && PyData.canLayAll0 (xs.map e)) = true
    rw [g.layAll xs, g.lay x]
    rfl
theorem Good.depAll (g : Good e n) : ∀ xs : List α, PyData.depthAll (xs.map e) ≤ n
  | [] => Nat.zero_le _
  | x :: xs => by
    show max (PyData.depth (e x)) (PyData.depthAll (xs.map e)) ≤ n
    exact Nat.max_le.mpr ⟨g.dep x, g.depAll xs⟩
theorem Good.eqvAll (g : Good e n) : ∀ xs ys : List α, PyData.eqvAll (xs.map e) (ys.map e) = decide (xs = ys)
  | [], [] => rfl
  | [], _ :: _ => rfl
  | _ :: _, [] => rfl
  | x :: xs, y :: ys => by
    show (PyData.eqv (e x) (e y) && PyData.eqvAll (xs.map e) (ys.map e)) = _
    rw [g.eqvAll xs ys, g.eqv, Bool.eq_iff_iff]
    simp
theorem goodL (g : Good e n) : Good (eL e) (n + 1) := ⟨fun xs => g.layAll xs, fun xs => by
  show PyData.depthAll (xs.map e) + 1 ≤ n + 1
  have := g.depAll xs
  omega, fun xs ys => g.eqvAll xs ys⟩
theorem goodT (g : Good e n) : Good (eT e) (n + 1) := ⟨fun xs => g.layAll xs, fun xs => by
  show PyData.depthAll (xs.map e) + 1 ≤ n + 1
  have := g.depAll xs
  omega, fun xs ys => g.eqvAll xs ys⟩
theorem goodP (g : Good e n) (k : Good f n) : Good (eP e f) (n + 1) := ⟨fun p => by
    show (PyData.canLay0 (e p.1) && (PyData.canLay0 (f p.2) && true)) = true
    rw [g.lay, k.lay]
    rfl, fun p => by
    show max (PyData.depth (e p.1)) (max (PyData.depth (f p.2)) 0) + 1 ≤ n + 1
    have h1 := g.dep p.1
    have h2 := k.dep p.2
    have : max (PyData.depth (e p.1)) (max (PyData.depth (f p.2)) 0) ≤ n := Nat.max_le.mpr ⟨h1, Nat.max_le.mpr ⟨h2, Nat.zero_le _⟩⟩
    omega, fun p q => by
    show (PyData.eqv (e p.1) (e q.1) && (PyData.eqv (f p.2) (f q.2) && true)) = _
    rw [g.eqv, k.eqv, Bool.eq_iff_iff]
    obtain ⟨a, b⟩ := p
    obtain ⟨c, d⟩ := q
    simp⟩
theorem Good.shaped (g : Good e n) (h : n ≤ 64) (x : α) : SeqAt.shaped (e x) = true := by
  unfold SeqAt.shaped
  rw [g.lay x, decide_eq_true (Nat.le_trans (g.dep x) h)]
  rfl
/-- two things compared -/
theorem eqE {K : PySem.W.Frag} {H : Hp} {v u : V} {x y : α} {Q : VK} (g : Good e n) (hn : n ≤ 64) (h1 : Dp K H v (e x)) (h2 : Dp K H u (e y)) (q : Q (.bl (decide (x = y))) H) : rEqD K v u H Q :=
  ⟨_, _, h1, h2, g.shaped hn x, g.shaped hn y, by rw [g.eqv]; exact q⟩
theorem neE {K : PySem.W.Frag} {H : Hp} {v u : V} {x y : α} {Q : VK} (g : Good e n) (hn : n ≤ 64) (h1 : Dp K H v (e x)) (h2 : Dp K H u (e y)) (q : Q (.bl (!decide (x = y))) H) : rNeD K v u H Q :=
  ⟨_, _, h1, h2, g.shaped hn x, g.shaped hn y, by rw [g.eqv]; exact q⟩
end
theorem dpI {K : PySem.W.Frag} {H : Hp} : ∀ (ns : List Int), DpAll K H (ns.map V.int) (ns.map PyData.int)
  | [] => .nil
  | n :: ns => .cons (.int n) (dpI ns)
/-- a list of ints -/
theorem dpL {K : PySem.W.Frag} {H : Hp} {a : Addr} {ns : List Int} (h : SqL K H a (ns.map V.int)) : Dp K H (.ref a) (eL PyData.int ns) := .lst h (dpI ns)
theorem dpT {K : PySem.W.Frag} {H : Hp} {a : Addr} {ns : List Int} (h : SqT K H a (ns.map V.int)) : Dp K H (.ref a) (eT PyData.int ns) := .tup h (dpI ns)
/-- lists of ints compared -/
theorem eqI_ {K : PySem.W.Frag} {H : Hp} {a b : Addr} {xs ys : List Int} {Q : VK} (h1 : SqL K H a (xs.map V.int)) (h2 : SqL K H b (ys.map V.int)) (q : Q (.bl (decide (xs = ys))) H) : rEqD K (.ref a) (.ref b) H Q := eqE (goodL goodI) (by decide) (dpL h1) (dpL h2) q
theorem neI_ {K : PySem.W.Frag} {H : Hp} {a b : Addr} {xs ys : List Int} {Q : VK} (h1 : SqL K H a (xs.map V.int)) (h2 : SqL K H b (ys.map V.int)) (q : Q (.bl (!decide (xs = ys))) H) : rNeD K (.ref a) (.ref b) H Q := neE (goodL goodI) (by decide) (dpL h1) (dpL h2) q
/-! ### new objects, the heap behind them by a letter -/
section
variable {X : Cx} {es : List Expr} {t : TA} {pos : Pos}
theorem pe_weak {e : Expr} {t t' : TE} (h : PE X e t) (w : ∀ σ H Q, t' σ H Q → t σ H Q) : PE X e t' := ⟨fun pins s σ H Q I q => h.run pins s σ H Q I (w σ H Q q)⟩
def tCutA (t : TA) : TA := fun σ H Q => ∃ M : List V → Hp → Prop, t σ H M ∧ ∀ vs H', M vs H' → Q vs H'
theorem pa_cut (h : PA X es t) : PA X es (tCutA t) := ⟨fun pos pins s σ H Q I ⟨M, hm, hq⟩ => thn (h.run pos pins s σ H M I hm) fun us s1 ⟨xs, H1, I1, r, q⟩ => ⟨xs, H1, I1, r, hq xs H1 q⟩⟩
/-- a new thing o, at any free place of any heap that keeps H -/
def New (o : HO) (H : Hp) (Q : VK) : Prop := ∀ p H', H p = none → Ex H H' → H' p = some o → Q (.ref p) H'
theorem New.go {o : HO} {H : Hp} {Q : VK} (k : New o H Q) (p : Addr) (hp : H p = none) : Q (.ref p) (upd H p o) := k p _ hp (Evl.Ex.new hp) upd_same
def tLstG (t : TA) : TE := fun σ H Q => t σ H fun xs H1 => xs.length ≤ sizeLine ∧ New (.lst xs) H1 Q
def tTupG (t : TA) : TE := fun σ H Q => t σ H fun xs H1 => xs.length ≤ sizeLine ∧ New (.tup xs) H1 Q
theorem pe_lstG (h : PA X es t) : PE X (.List es pos) (tLstG t) := pe_weak (pe_lst (pa_cut h)) fun σ H Q q => ⟨_, q, fun _ _ z => ⟨z.1, fun p hp => z.2.go p hp⟩⟩
theorem pe_tupG {x1} (h : PA X es t) : PE X (.Tuple es x1 pos) (tTupG t) := pe_weak (pe_tup (pa_cut h)) fun σ H Q q => ⟨_, q, fun _ _ z => ⟨z.1, fun p hp => z.2.go p hp⟩⟩
def rCatG : R2 := fun x y H Q => ∃ l b xs zs, x = .ref l ∧ y = .ref b ∧ H l = some (.lst xs) ∧ H b = some (.lst zs) ∧ xs.length + zs.length ≤ sizeLine ∧ New (.lst (xs ++ zs)) H Q
theorem op_catG : OpR X (binaryOp .Add) rCatG := fun pins s σ H x y v u Q I rx ry ⟨l, b, xs, zs, h1, h2, h3, h4, h5, k⟩ => op_cat pins s σ H x y v u Q I rx ry ⟨l, b, xs, zs, h1, h2, h3, h4, h5, fun p hp => k.go p hp⟩
def rRepG : R2 := fun x y H Q => ∃ l k xs, x = .ref l ∧ y = .int k ∧ H l = some (.lst xs) ∧ -(2 ^ 63) ≤ k ∧ k < 2 ^ 63 ∧ xs.length * k.toNat ≤ sizeLine ∧ New (.lst (List.replicate k.toNat xs).flatten) H Q
theorem op_repG : OpR X (binaryOp .Mult) rRepG := fun pins s σ H x y v u Q I rx ry ⟨l, k, xs, h1, h2, h3, h4, h5, h6, z⟩ => op_rep pins s σ H x y v u Q I rx ry ⟨l, k, xs, h1, h2, h3, h4, h5, h6, fun p hp => z.go p hp⟩
def rSlG (K : PySem.W.Frag) : V → Option Int → Option Int → Hp → VK → Prop := fun x lo hi H Q => ∃ a xs, x = .ref a ∧ SqL K H a xs ∧ New (.lst (cutV xs lo hi)) H Q
theorem sl_listG : SlR X (rSlG X.K) := fun pins s σ H x v vl vu lo hi sl Q I rx hs pl pu ⟨a, xs, h1, h2, k⟩ => sl_list pins s σ H x v vl vu lo hi sl Q I rx hs pl pu ⟨a, xs, h1, h2, fun p hp => k.go p hp⟩
def rListG (K : PySem.W.Frag) : List V → Hp → VK → Prop := fun xs H Q => ∃ p ys, xs = [.ref p] ∧ (SqL K H p ys ∨ SqT K H p ys) ∧ New (.lst ys) H Q
theorem call_listG : CallR X (.type "list") (rListG X.K) := fun pins s σ H xs us Q I r ⟨p, ys, h1, h2, k⟩ => call_list_of pins s σ H xs us Q I r ⟨p, ys, h1, h2, fun p hp => k.go p hp⟩
def rTupleG (K : PySem.W.Frag) : List V → Hp → VK → Prop := fun xs H Q => ∃ p ys, xs = [.ref p] ∧ SqL K H p ys ∧ New (.tup ys) H Q
theorem call_tupleG : CallR X (.type "tuple") (rTupleG X.K) := fun pins s σ H xs us Q I r ⟨p, ys, h1, h2, k⟩ => call_tuple_of pins s σ H xs us Q I r ⟨p, ys, h1, .inl ⟨h2, fun p hp => k.go p hp⟩⟩
def rSortedG (K : PySem.W.Frag) : List V → Hp → VK → Prop := fun vs H Q => ∃ (a : Addr) (ns : List Int), vs = [V.ref a] ∧ SqL K H a (ns.map V.int) ∧ ∀ ns' : List Int, ns'.Perm ns → ns'.Pairwise (· ≤ ·) → New (.lst (ns'.map V.int)) H Q
theorem cr_sortedG : CallR X (.builtin "sorted") (rSortedG X.K) := fun pins s σ H xs us Q I r ⟨a, ns, h1, h2, k⟩ => cr_sortedI pins s σ H xs us Q I r ⟨a, ns, h1, h2, fun ns' p h3 h4 hp => (k ns' h3 h4).go p hp⟩
end
/-! ### slices -/
theorem cut_to (xs : List V) (n : Nat) : cutV xs none (some (n : Int)) = xs.take n := by
  unfold cutV
  rw [HT.sIx_none, HT.sIx_nat, List.drop_zero, Nat.sub_zero]
  by_cases h : n ≤ xs.length
  · rw [Nat.min_eq_left h]
  · rw [Nat.min_eq_right (by omega), List.take_of_length_le (Nat.le_refl _), List.take_of_length_le (by omega)]
theorem cut_from (xs : List V) (n : Nat) : cutV xs (some (n : Int)) none = xs.drop n := by
  unfold cutV
  rw [HT.sIx_none, HT.sIx_nat]
  by_cases h : n ≤ xs.length
  · rw [Nat.min_eq_left h, List.take_of_length_le (by rw [List.length_drop]; exact Nat.le_refl _)]
  · rw [Nat.min_eq_right (by omega), List.drop_eq_nil_of_le (Nat.le_refl _), List.drop_eq_nil_of_le (by omega)]
    exact List.take_nil
/-! ### ways that come together -/
section
variable {X : Cx}
def tCutE (te : TE) : TE := fun σ H Q => ∃ M : V → Hp → Prop, te σ H M ∧ ∀ v H', M v H' → Q v H'
def tCutT (tt : TT) : TT := fun σ H Q => ∃ M : Bool → Hp → Prop, tt σ H M ∧ ∀ b H', M b H' → Q b H'
def tCutS (t : TS) : TS := fun D σ H => ∃ M : L2.St → Hp → Prop, t { D with nx := M } σ H ∧ ∀ σ' H', M σ' H' → D.nx σ' H'
theorem pe_cut {e : Expr} {te : TE} (h : PE X e te) : PE X e (tCutE te) := ⟨fun pins s σ H Q I ⟨M, hm, hq⟩ => thn (h.run pins s σ H M I hm) fun v s1 ⟨x, H1, I1, r, q⟩ => ⟨x, H1, I1, r, hq x H1 q⟩⟩
theorem pt_cut {e : Expr} {tt : TT} (h : PT X e tt) : PT X e (tCutT tt) := ⟨fun pins s σ H Q I ⟨M, hm, hq⟩ => thn (h.run pins s σ H M I hm) fun b s1 ⟨H1, I1, q⟩ => ⟨H1, I1, hq b H1 q⟩⟩
theorem ps_cut {st : Stmt} {t : TS} (h : PS X st t) : PS X st (tCutS t) := by
  refine ⟨fun pins s σ H D I ⟨M, hm, hq⟩ => thn (h.run pins s σ H { D with nx := M } I hm) fun f s1 q => ?_⟩
  cases f with
  | next =>
    obtain ⟨σ', H', I', q⟩ := q
    exact ⟨σ', H', I', hq σ' H' q⟩
  | ret v => exact q
  | brk => exact q
  | cont => exact q
end
theorem ifF {c : Bool} {A B : Prop} (h : c = false) (k : B) : if c = true then A else B := by
  rw [h]
  exact iteF k
theorem ifT {c : Bool} {A B : Prop} (h : c = true) (k : A) : if c = true then A else B := by
  rw [h]
  exact iteT k
theorem ifB {c : Bool} {A B : Prop} (h1 : c = true → A) (h2 : c = false → B) : if c = true then A else B := by
  cases c with
  | true => exact iteT (h1 rfl)
  | false => exact iteF (h2 rfl)
/-! ### comprehensions without tests, the element without a trace -/
theorem lc_mapL {K : PySem.W.Frag} {a : Addr} {xs ys : List V} {j : Nat} {te : TE} {vs : List Nat} {σ : L2.St} {H1 : Hp} {D : Addr} {Qd : Hp → Prop} (hx : SqL K H1 a xs) (hD : H1 D = none) (hl : ys.length = xs.length) (hz : xs.length ≤ sizeLine)
    (hw : ∀ x, wipe ((wipe σ vs).set j (some x)) vs = wipe σ vs)
    (he : ∀ (i : Nat) x y H', Ex H1 H' → xs[i]? = some x → ys[i]? = some y → ∀ R : VK, (∀ H2, Ex H' H2 → R y H2) → te ((wipe σ vs).set j (some x)) H' R)
    (k : ∀ H', Ex H1 H' → H' D = some (.lst ys) → Qd H') :
    ∃ W : Nat → Nat → Hp → Prop, (∃ m, W 0 m (upd H1 D (.lst []))) ∧ ∀ i m H, W i m H →
      ((Itl K a).stop i H ∧ Qd H) ∨ ((Itl K a).go i H ∧ ∃ Nx : Hp → Prop, (∀ H', Nx H' → ∃ m', m' < m ∧ W (i + 1) m' H') ∧ ∀ x H', (Itl K a).yld i H x H' → gName j x (wipe σ vs) H' fun σ2 H2 => wipe σ2 vs = wipe σ vs ∧ tYes σ2 H2 fun b H3 =>
        if b = true then te σ2 H3 fun y H4 => ∃ acc, H4 D = some (.lst acc) ∧ acc.length < sizeLine ∧ Nx (upd H4 D (.lst (acc ++ [y]))) else Nx H3) := by
  refine lc_list (xs := xs) (fun i H' => Ex H1 H' ∧ H' D = some (.lst (ys.take i))) ⟨Evl.Ex.new hD, upd_same⟩ (fun i H' _ p => Evl.ex_l p.1 hx) (fun i x H' hi p => ?_) (fun H' p => k H' p.1 ?_)
  · have hi' : i < xs.length := (List.getElem?_eq_some_iff.mp hi).1
    have hy : ys[i]? = some (ys[i]'(by omega)) := List.getElem?_eq_getElem (by omega)
    refine ⟨hw x, ?_⟩
    show te ((wipe σ vs).set j (some x)) H' _
    refine he i x _ H' p.1 hi hy _ fun H2 e2 => ⟨ys.take i, e2 _ _ p.2, ?_, ?_⟩
    · rw [List.length_take]
      omega
    · refine ⟨Evl.Ex.mut (p.1.trans e2) hD, ?_⟩
      rw [upd_same, List.take_add_one, hy]
      rfl
  · have := p.2
    rw [List.take_of_length_le (by omega)] at this
    exact this
end My
set_option Elab.async false
set_option linter.all false
set_option maxRecDepth 100000
set_option maxHeartbeats 4000000
/-! Own errors whose __init__ says super().__init__("..") and keeps one field. -/
namespace My
open PySem PySem.Spec PyProof.Rows L2 NdefX
/-! ### the built-in __init__ bound to a new error, called -/
section
variable {prog : Program} {w : World} {A : Around} {E : Value → Shared → Prop} {h : Heap} {g : Array GenState} {d : Drawn} {t : Nat} {os : OsState}
variable {nm q : Str} {C N : Addr} {bs bm : List Value} {hdct : Bool} {sn : List Str} {sub : List Value} {ab : Bool} {col : Option Bool} {dd : Option Addr} {k0 k1 k2 k3 k5 : Option Value}
theorem call_mwV {u e t0 : Addr} {rest : List Value} {Q : Value → Shared → Prop}
    (hC : h.get? C = some (excClassObj nm q C N bs bm hdct sn sub ab col dd k0 k1 k2 k3 k5 "ValueError.__new__")) (he : h.get? e = some (HandSPX.excO C t0)) (hu : h.get? u = some (PySem.W.kxs_mw "ValueError.__init__" e)) (hrest : rest.length ≤ sizeLine)
    (hq : ∀ h' t1, (∀ b o, b ≠ e → h.get? b = some o → h'.get? b = some o) → h'.get? e = some (HandSPX.excO C t1) → Q .none ⟨h', g, d, t, os⟩) :
    wpAny (model prog w) A (call (.ref u) rest) Q E ⟨h, g, d, t, os⟩ := by
  refine wpAny_call (codeAny_of_tree ?_)
  show wpAny _ A.in1 (callAny (.ref u) ⟨rest, []⟩) _ _ _
  simp only [callAny]
  refine wpAny_bind (wpAny_load hu ?_)
  simp only [PySem.W.kxs_mw, show (Value.type "method-wrapper" == Value.type "method" || Value.type "method-wrapper" == Value.type "builtin_function_or_method" || Value.type "method-wrapper" == Value.type "method-wrapper") = true by decide, if_true]
  refine W.KFB.if_so (by decide) ?_
  refine wpAny_bind (ESX.check_bound F.excBase_ValueError hC he rfl ?_)
  refine wpAny_bind (wpAny_pure (wpAny_pure ?_))
  refine ⟨Code.quiet_builtin _ (by decide +kernel), codeAny_builtin F.excBase_ValueError.initEntry ?_⟩
  rw [Around.under_plainId F.excBase_ValueError.init.plain _]
  wp_walk
  refine hq _ h.objs.size (fun b o hb ho => ?_) ?_
  · rw [Heap.get?_update_other _ _ (Ne.symm hb)]
    exact Heap.get?_push_of_some _ ho
  · rw [Heap.get?_update_self _ (Heap.get?_push_of_some _ he) rfl]
    rfl
end
/-- what the written part says of the __init__ and of the class D that holds it -/
structure InitT (P : Program) (K : PySem.W.Frag) (mg : Str → Option Value) (st : Stmt) (qu : Str) (fI cc cda D : Addr) (fd : FuncData) : Prop where
  ex : ∃ (oc : Value) (od : Option Addr) (kV doc pm : Value) (an : Option Addr) (ct : Value) (osl : Array (Option Value)),
    fd = PySem.W.fnX "__init__" qu (defArgs st) (defBody st) (defScope st) [("__class__", cc)] .none kV doc pm an (.ref cda) ct ∧ K.lookup fI = some ⟨oc, od, .func fd, osl⟩
  code : PySem.W.codeIn K (.ref cda) qu = true
  cell : ∃ cl cld csl, K.lookup cc = some ⟨cl, cld, .cell (some (.ref D)), csl⟩
  file : ∃ (ccl : Value) (cdd : Option Addr) (ccs : Array (Option Value)) (vs : Array Value) (fl : Str) (tf : Tok), K.lookup cda = some ⟨ccl, cdd, .fields vs, ccs⟩ ∧ vs[2]? = some (.str fl tf) ∧ ((P.main.file : Str) == fl) = true
  cls : ∃ cdD, PySem.W.clsIn K D = some cdD
  sup : mg "super" = none
  top : (P.main.scope.names.lookup ("super" : Str)).isSome = false
  opq : PySem.W.nsIn K cStatics "thirdparty.any" = some none
/-- what it says of a class C of errors that has this __init__ -/
structure ErrC (K : PySem.W.Frag) (fI D C : Addr) : Prop where
  oex : OexC K C
  init : PySem.W.findIn K (.ref C) "__init__" = some (some (.ref fI))
  tI : PySem.W.typeIn K (.ref fI) = some (.type "function")
  nov : PySem.W.findIn K (.ref C) "value" = some none
  mro : PySem.W.mroIn K C (.ref D) = some true
  sin : PySem.W.ks_superIn K C D "__init__" = some (some (.builtin "ValueError.__init__"))
  sub : PySem.W.subIn K (.ref C) (.type "ValueError") = some true
  xf : XfC K C
/-- the first statement, super().__init__("..") -/
abbrev sSuper (p0 p1 p2 p3 p4 p5 : Pos) (x : Str) (j : Nat) : Stmt := .Expr (.Call (.Attribute (.Call (.Name "super" p0) [] [] p1) "__init__" p2) [.Constant (.str x) j p3] [] p4) p5
abbrev sKeep (p0 p1 p2 p3 : Pos) : Stmt := .Assign [.Attribute (.Name "self" p0) "value" p1] (.Name "value" p2) p3
/-- the promise: the new error at a has, behind it, its dict with the value -/
def spErr (K : PySem.W.Frag) (fI D : Addr) : Sp := fun vs H Q _ => ∃ (a C : Addr) (v : V), vs = [.ref a, v] ∧ ErrC K fI D C ∧ H a = some (exo a C none) ∧
  ∀ dx, H dx = none → dx ≠ a → Q .non (upd (upd H dx (exd dx [("value", v)])) a (exo a C (some dx)))
section
variable {P : Program} {w : World} {K : PySem.W.Frag} {mg : Str → Option Value} {base : Heap} {st : Stmt} {qu : Str} {fI cc cda D : Addr} {fd : FuncData}
theorem super_step {A : Around} {outer : List Env} {s0 : Shared} {H0 : Hp} {E0' : XK} {F : NF} {body : List Stmt} {p0 p1 p2 p3 p4 p5 : Pos} {x : Str} {j : Nat} {a C : Addr} {v : V} {H : Hp} {s : Shared} {ws : List (Option V)} {Q : Flow → Shared → Prop} {N : List Str}
    (T : InitT P K mg st qu fI cc cda D fd) (hF : F = ⟨"__init__", qu, defArgs st, defBody st, defScope st, [("__class__", cc)], cda⟩) (TC : ErrC K fI D C)
    (hks : (defScope st).names.lookup ("super" : Str) = some .globalImplicit) (hkc : (defScope st).names.lookup ("__class__" : Str) = some .free) (hka : (defScope st).names.lookup ("self" : Str) = some .local) (hk : (defScope st).kind = .function)
    (hp : ((defArgs st).posonlyargs ++ (defArgs st).args).head?.map (·.arg) = some ("self" : Str)) (hN : N[0]? = some ("self" : Str))
    {pl : Sem Bool} (hev : ∀ env : Env, eval (.Call (.Attribute (.Call (.Name "super" p0) [] [] p1) "__init__" p2) [.Constant (.str x) j p3] [] p4) env = (do
      let ov ← attributeBase (.Call (.Name "super" p0) [] [] p1) "__init__" env (eval (.Call (.Name "super" p0) [] [] p1) env)
      standAt p2.atName
      let (f, first) ← holding [ov] (getMethod ov "__init__" pl)
      callWith p4 f first (backTo p4 (starEach [.Constant (.str x) j p3] env)) []))
    (I : Inv (ncx CX0 P w K mg base N F fI A outer s0 H0 E0') [] (some (.ref a) :: some v :: ws) H s) (ha : H a = some (exo a C none))
    (h : ∀ s', Inv (ncx CX0 P w K mg base N F fI A outer s0 H0 E0') [] (some (.ref a) :: some v :: ws) H s' → Q .next s') :
    _root_.PySem.wpAt (model P w) (ncx CX0 P w K mg base N F fI A outer s0 H0 E0').A (.func body (ncx CX0 P w K mg base N F fI A outer s0 H0 E0').env) (exec (sSuper p0 p1 p2 p3 p4 p5 x j) (ncx CX0 P w K mg base N F fI A outer s0 H0 E0').env) Q (ncx CX0 P w K mg base N F fI A outer s0 H0 E0').xe s := by
  subst hF
  obtain ⟨oc, od, kV, doc, pm, an, ct, osl, efd, lk⟩ := T.ex
  obtain ⟨cl, cld, csl, hcell⟩ := T.cell
  obtain ⟨ccl, cdd, ccs, vs, fl, tf, hcode, hvs, hfile⟩ := T.file
  obtain ⟨cdD, hD⟩ := T.cls
  obtain ⟨nm, q, N', bs, bm, sn, sub, ab, col, dd, k0, k1, k2, k3, k5, hC, hbm⟩ := TC.oex.cls
  have hcl : PySem.W.clsIn K C = some { name := nm, bases := bs, mro := .ref C :: bm, ns := N', qualname := q, hasDict := true, slotNames := sn, subclasses := sub, abstract := ab, collection := col, hasDel := false } := by unfold PySem.W.clsIn; rw [hC] <;> rfl
  have KX : K.In s.heap := I.kIn
  obtain ⟨ar, har, harg⟩ : ∃ ar, ((defArgs st).posonlyargs ++ (defArgs st).args).head? = some ar ∧ ar.arg = ("self" : Str) := by
    cases e : ((defArgs st).posonlyargs ++ (defArgs st).args).head? with
    | none => rw [e] at hp; cases hp
    | some ar => rw [e] at hp; exact ⟨ar, rfl, Option.some.inj hp⟩
  obtain ⟨oD, hD1, hD2⟩ : ∃ oD, s.heap.get? D = some oD ∧ oD.data = .cls cdD := by
    unfold PySem.W.clsIn at hD
    split at hD
    · rename_i c d cd' sl ho
      cases hD
      exact ⟨_, KX _ _ ho, rfl⟩
    · cases hD
  obtain ⟨t1, hoe⟩ := exo_at I.hok ha
  -- the name self
  obtain ⟨m, hns, hl⟩ := id I.loc
  obtain ⟨u0, ru, lu⟩ := hl 0 "self" (.ref a) hN rfl (.inl hka)
  obtain rfl : u0 = Value.ref a := ru
  have hself : m "self" = some (.ref a) := by
    rcases lu with ⟨_, q⟩ | ⟨q, _⟩
    · exact q
    · have e : (defScope st).names.lookup ("self" : Str) = some .cell ∨ (defScope st).names.lookup ("self" : Str) = some .free := q
      rw [hka] at e
      rcases e with z | z <;> cases z
  obtain ⟨mb, hb1, hb2⟩ := I.mod.blt
  refine ks_wpAt_Expr_any (ks_wpAt_MethodCall ?_ (hev _)) (I.quiet) rfl
  refine ks_wpAt_super_base hks hkc (by decide) rfl (KX _ _ lk) (by rw [efd]) (ar := ar) har rfl (KX _ _ hcode) rfl hvs hfile T.top ?_
  refine PySem.W.ks_loadName_global hk hks (Calls.loadGlobal_builtin (I.mod.glob.keeps I.bk) T.sup (hb1.keeps I.bk) ((hb2 _ (by decide)).trans (by decide +kernel)) ⟨rfl, ?_⟩)
  refine wpAny_loadName_free hk hkc rfl ⟨_, KX _ _ hcell, rfl⟩ ?_
  rw [harg]
  refine wpAny_loadName_local hk hka hns hself ?_
  refine ks_wpAny_isType_cls hD1 hD2 ⟨rfl, ?_⟩
  obtain ⟨hp0, g, d, t, os⟩ := s
  refine ks_wpAny_call_super hD1 hD2 hoe rfl (fun c e => by cases e) (PySem.W.looks_mroIn KX TC.mro) (fun h1 e1 k1' => ?_)
  have I1 : Inv (ncx CX0 P w K mg base N ⟨"__init__", qu, defArgs st, defBody st, defScope st, [("__class__", cc)], cda⟩ fI A outer s0 H0 E0') [] (some (.ref a) :: some v :: ws) H ⟨h1, g, d, t, os⟩ := I.kept (h' := h1) (t' := t) k1'
  have KX1 : K.In h1 := I1.kIn
  have hoe1 := k1' _ _ hoe
  have hnaC : a ≠ C := by
    rintro rfl
    have z := KX _ _ hC
    rw [hoe] at z
    cases z
  have hI1 : PySem.W.Looks (model P w) h1 (isInstance (.ref a) (.type "ValueError")) true := (show PySem.W.InstAt h1 a _ C none from ⟨hoe1, rfl, rfl, trivial⟩).type.andThen (PySem.W.looks_subIn KX1 TC.sub)
  have hsin := TC.sin
  unfold PySem.W.ks_superIn at hsin
  rw [hcl, Option.bind_some] at hsin
  refine PySem.W.kxs_getMethod PySem.W.kxs_ValueError e1 (PySem.W.looks_opaque KX1 T.opq) (l₀ := .ref C :: bm) ?_ rfl KX1 hsin hI1 hnaC (by decide) ?_
  · exact fun A Q E s k q => wpAny_bind ((PySem.W.looks_clsIn KX1 hcl) A _ E s k (wpAny_pure q))
  have I2 : Inv (ncx CX0 P w K mg base N ⟨"__init__", qu, defArgs st, defBody st, defScope st, [("__class__", cc)], cda⟩ fI A outer s0 H0 E0') [] (some (.ref a) :: some v :: ws) H ⟨h1.push (PySem.W.kxs_mw "ValueError.__init__" a), g, d, t + 1, os⟩ := I1.kept (t' := t + 1) fun b o e => Heap.get?_push_of_some _ e
  have hu2 : (h1.push (PySem.W.kxs_mw "ValueError.__init__" a)).get? h1.objs.size = some (PySem.W.kxs_mw "ValueError.__init__" a) := Heap.get?_push_at rfl rfl
  have hoe2 : (h1.push (PySem.W.kxs_mw "ValueError.__init__" a)).get? a = _ := Heap.get?_push_of_some _ hoe1
  show wpAny _ _ (callWith p4 (.ref h1.objs.size) [] (backTo p4 (starEach [.Constant (.str x) j p3] _)) []) _ _ _
  refine PySem.W.kxs_callWith (i := "ValueError.__init__") (x := a) rfl (PySem.Calls.evalArgs_plain ?_)
  refine args_cons (Calls.Constant_str (args_nil ⟨hu2, ?_⟩)) rfl
  have I3 := I2.tok (t + 1 + 1)
  refine call_mwV (KX1.keeps (fun b o e => Heap.get?_push_of_some _ e) _ _ hC) hoe2 hu2 (by show 1 ≤ sizeLine; decide) (fun h' t' k he => ?_)
  have J := I3.write (t' := t + 1 + 1) (x := a) (e := a) (o := exo a C none) (by rw [ha]; exact True.intro) (.inl rfl) k ⟨_, he⟩ (exo_ok he)
  have eu : upd H a (exo a C none) = H := by
    funext b
    by_cases hb : b = a
    · rw [hb, upd_same, ha]
    · rw [upd_ne hb]
  rw [eu] at J
  exact h _ J
theorem ok_err {p0 p1 p2 p3 p4 p5 q0 q1 q2 q3 : Pos} {x : Str} {j : Nat} {pl : Sem Bool} (T : InitT P K mg st qu fI cc cda D fd) (S : NScope ["self", "value", "__class__"] ["self", "value"] ["__class__"] (defScope st))
    (hbd : defBody st = [sSuper p0 p1 p2 p3 p4 p5 x j, sKeep q0 q1 q2 q3]) (hks : (defScope st).names.lookup ("super" : Str) = some .globalImplicit)
    (hp : ((defArgs st).posonlyargs ++ (defArgs st).args).head?.map (·.arg) = some ("self" : Str))
    (hev : ∀ env : Env, eval (.Call (.Attribute (.Call (.Name "super" p0) [] [] p1) "__init__" p2) [.Constant (.str x) j p3] [] p4) env = (do
      let ov ← attributeBase (.Call (.Name "super" p0) [] [] p1) "__init__" env (eval (.Call (.Name "super" p0) [] [] p1) env)
      standAt p2.atName
      let (f, first) ← holding [ov] (getMethod ov "__init__" pl)
      callWith p4 f first (backTo p4 (starEach [.Constant (.str x) j p3] env)) [])) : FnOk P w K mg base CX0 1 fI fd ["self", "value"] (spErr K fI D) := by
  refine ⟨fun vs H Q E h => by obtain ⟨a, C, v, rfl, _⟩ := h; rfl, fun A outer s H args us vs Q E hr e0 hb r hsp => ?_⟩
  have KX : K.In s.heap := e0.mod.kin.keeps fun b o e => (e0.bs b o e).1
  have lim : s.heap.NoLimit := e0.mod.nolimit.keeps fun b o e => (e0.bs b o e).1
  obtain ⟨oc, od, kV, doc, pm, an, ct, osl, efd, lk⟩ := id T.ex
  obtain ⟨cl, cld, csl, hcell⟩ := T.cell
  obtain ⟨a, C, v, ev, TC, ha, k⟩ := hsp
  subst ev
  have hl : [V.ref a, v].length = (["self", "value"] : List Str).length := rfl
  have hC : CellsAt [(("__class__" : Str), cc)] ["__class__"] [some (.ref D)] s.heap H := by
    have hb := e0.mod.kin _ _ hcell
    have hs := e0.bs _ _ hb
    have key : ∀ {y : Str} {c : Addr}, ([(("__class__" : Str), cc)] : List (Str × Addr)).lookup y = some c → c = cc ∧ y = "__class__" := fun {y c} e => by
      have z := PySem.mem_of_lookup e
      have z' : (y, c) = (("__class__" : Str), cc) := by simpa using z
      exact ⟨congrArg Prod.snd z', congrArg Prod.fst z'⟩
    refine ⟨rfl, fun y c e => ?_, fun y z c e1 e2 => (key e1).2.trans (key e2).2.symm, fun i y e => ?_⟩
    · obtain ⟨rfl, rfl⟩ := key e
      exact ⟨hs.2, _, _, hs.1, rfl⟩
    · cases i with
      | zero =>
        have e' : ("__class__" : Str) = y := Option.some.inj e
        subst e'
        refine ⟨cc, by simp [List.lookup], fun u hu => ?_⟩
        have hu' : some (some (V.ref D)) = some (some u) := hu
        cases hu'
        exact ⟨.ref D, rfl, _, hs.1, rfl⟩
      | succ i => simp at e
  have hfd : (K.lookup fI) = some ⟨oc, od, .func (PySem.W.fnX "__init__" qu (defArgs st) (defBody st) (defScope st) [("__class__", cc)] .none kV doc pm an (.ref cda) ct), osl⟩ := by rw [← efd]; exact lk
  refine codeAny_call_function hr.depth (KX _ _ hfd) rfl S.co S.gen rfl (PySem.W.codeRec_of KX T.code) ?_
  have hb' := hb
  rw [efd] at hb'
  refine hb' _ _ _ _ ?_
  refine wpAny_newFunctionEnv S.nocell (fun ⟨n, _⟩ hy => S.par n (List.of_mem_zip hy).1) (fun h₁ hns hsb => ⟨lim.fresh _ hsb, ?_⟩) S.kind
  have kp : ∀ b o, s.heap.get? b = some o → h₁.get? b = some o := fun b o e => hsb.extBut b o (Nat.ne_of_lt (Heap.lt_size e)) (Heap.get?_push_of_some _ e)
  have I : Inv (ncx CX0 P w K mg base ["self", "value", "__class__"] ⟨"__init__", qu, defArgs st, defBody st, defScope st, [("__class__", cc)], cda⟩ fI A outer s H E) [] (startF ["self", "value", "__class__"] [V.ref a, v] [some (.ref D)]) H { s with heap := h₁, toks := s.toks + ((["self", "value"] : List Str).zip us).length } :=
    inv_startN (F := ⟨"__init__", qu, defArgs st, defBody st, defScope st, [("__class__", cc)], cda⟩) S hr.hd e0 hl r hC hns kp
  refine ks_codeAny_funcAt (env := (ncx CX0 P w K mg base ["self", "value", "__class__"] ⟨"__init__", qu, defArgs st, defBody st, defScope st, [("__class__", cc)], cda⟩ fI A outer s H E).env) (body := defBody st) ?_
  rw [show execs (defBody st) = execs [sSuper p0 p1 p2 p3 p4 p5 x j, sKeep q0 q1 q2 q3] from congrArg execs hbd]
  refine ks_wpAt_execs_cons (super_step T rfl TC hks (S.frk _ (by simp)) (S.par _ (by simp)) S.kind hp rfl hev I ha fun s' I' => ?_)
  have hpst : PSs (ncx CX0 P w K mg base ["self", "value", "__class__"] ⟨"__init__", qu, defArgs st, defBody st, defScope st, [("__class__", cc)], cda⟩ fI A outer s H E) [sKeep q0 q1 q2 q3] _ :=
    pss_one (ps_ost (pe_var (i := 0) rfl (.inl (S.par _ (by simp)))) (pe_var (i := 1) rfl (.inl (S.par _ (by simp)))))
  have run := hpst.run [] s' _ H { nx := fun _ H' => Q .non H', rt := Q } I' ⟨_, rfl, _, rfl, a, C, rfl, TC.oex, TC.nov, .inl ⟨ha, k⟩⟩
  refine wpAt_of_wpAny (wpAny_mono run (fun fl s2 hs => ?_) fun e s2 hs => hs)
  have fin : ∀ {σ' : L2.St} {H' : Hp} {v : V} {u : Value}, Inv (ncx CX0 P w K mg base ["self", "value", "__class__"] ⟨"__init__", qu, defArgs st, defBody st, defScope st, [("__class__", cc)], cda⟩ fI A outer s H E) [] σ' H' s2 → L2.RelV v u → Q v H' → CE outer P w H s Q u s2 :=
    fun {σ' H' v u} J rv q => ⟨v, H', J.os, J.bare, J.base, J.hok, rv, q⟩
  cases fl with
  | ret u =>
    obtain ⟨v, σ', H', J, rv, q⟩ := hs
    exact fin J rv q
  | next =>
    obtain ⟨σ', H', J, q⟩ := hs
    exact fin (v := V.non) (u := Value.none) J rfl q
  | brk =>
    obtain ⟨_, _, _, q⟩ := hs
    exact False.elim q
  | cont =>
    obtain ⟨_, _, _, q⟩ := hs
    exact False.elim q
end
/-! ### raise X(e) -/
/-- an error of the class at C with the value v is what is wanted -/
def Raised (C : Addr) (v : V) (H : Hp) (E : XK) : Prop := ∀ d H', H d = none → Ex H H' → H' d = some (.xd [("value", v)]) → E (.ref C) (some d) H'
def tErr (C : Addr) (ta : TA) : L2.St → Hp → XK → Prop := fun σ H Q => ta σ H fun vs H1 => ∃ v, vs = [v] ∧ Raised C v H1 Q
section
variable {X : Cx} {K : PySem.W.Frag} {fI D C : Addr} {fd : FuncData} {x : Str} {p pos : Pos} {e : Expr} {ta : TA}
theorem pmk_err (F : FnOk X.prog X.w X.K X.mg X.base CX0 1 fI fd ["self", "value"] (spErr X.K fI D)) (hb : Binds X.K fd ["self", "value"] []) (TC : ErrC X.K fI D C) (hr : Room 2 X.A) (hg : Gl X x) (hm : X.mg x = some (.ref C)) (ha : PA X [e] ta)
    (hdb : (x == ("__debug__" : Str)) = false := by decide) (he : starEach [e] X.env = (false, eval e X.env) :: starEach [] X.env := by rfl) (hpl : (backTo pos (starEach [] X.env)).any (·.1) = false := by rfl) :
    PMk X (.Call (.Name x p) [e] [] pos) (tErr C ta) := fun pins s σ H Q I h => by
  refine pmk_oex (sp := spErr X.K fI D) (dvs := []) TC.oex TC.init TC.tI F hr hb .nil pass0 hg hm (pa_cut ha) hdb he hpl pins s σ H Q I ⟨_, h, fun vs H1 z => ?_⟩
  obtain ⟨v, rfl, k⟩ := z
  refine ⟨by show 1 ≤ 1000; decide, fun a hn => ⟨a, C, v, rfl, TC, upd_same, fun dx hdx ne => ⟨rfl, dx, [("value", v)], upd_same, by rw [upd_ne ne, upd_same], ?_, ?_⟩⟩⟩
  · rw [upd_ne ne] at hdx
    exact hdx
  · rw [upd_ne ne] at hdx
    refine k dx _ hdx (fun b o hb => ?_) upd_same
    have n1 := ne_of_none hb hdx
    have n2 := ne_of_none hb hn
    rw [upd_ne n1, del_ne n2, upd_ne n2, upd_ne n1, upd_ne n2]
    exact hb
end
/-- calls of a def that may raise, in one that may -/
theorem passX {P : Program} {w : World} {K : PySem.W.Frag} {mg : Str → Option Value} {base : Heap} {N : List Str} {qual : Str} {scope : Scope} {f : Addr} {cd : Value} {A : Around} {outer : List Env} {s : Shared} {H : Hp} {E : XK} :
    Passes (L2.CX P w) (cxOf (L2.CX P w) P w K mg base N qual scope f cd A outer s H E) E := passes_call (X := cxOf (L2.CX P w) P w K mg base N qual scope f cd A outer s H E) (takes_of rfl rfl rfl rfl) (fun _ _ _ _ h => h)
/-! ### what the head's facts give -/
theorem along_ve (K : PySem.W.Frag) : PySem.W.alongIn K "__init__" PySem.HandSPX.veTail = some (some (.builtin "ValueError.__init__")) := by kernel_rfl
section
variable {K : PySem.W.Frag} {nm q : Str} {C D N : Addr} {bs : List Value} {sn : List Str} {sub : List Value} {ab : Bool} {col : Option Bool} {dd : Option Addr} {k0 k1 k2 k3 k5 : Option Value}
theorem sup_self (h : K.lookup C = some (excClassObj nm q C N bs PySem.HandSPX.veTail true sn sub ab col dd k0 k1 k2 k3 k5 "ValueError.__new__")) (e : C = D) : PySem.W.ks_superIn K C D "__init__" = some (some (.builtin "ValueError.__init__")) := by
  subst e
  unfold PySem.W.ks_superIn PySem.W.clsIn
  rw [h]
  show PySem.W.alongIn K "__init__" (((Value.ref C :: PySem.HandSPX.veTail).dropWhile (· != .ref C)).drop 1) = _
  rw [ESX.drop_own]
  exact along_ve K
theorem sup_child (h : K.lookup C = some (excClassObj nm q C N bs (.ref D :: PySem.HandSPX.veTail) true sn sub ab col dd k0 k1 k2 k3 k5 "ValueError.__new__")) (e : (C == D) = false) : PySem.W.ks_superIn K C D "__init__" = some (some (.builtin "ValueError.__init__")) := by
  unfold PySem.W.ks_superIn PySem.W.clsIn
  rw [h]
  show PySem.W.alongIn K "__init__" (((Value.ref C :: Value.ref D :: PySem.HandSPX.veTail).dropWhile (· != .ref D)).drop 1) = _
  have ne : ((Value.ref C : Value) != .ref D) = true := by
    have : C ≠ D := by simpa using e
    simp [this]
  rw [List.dropWhile_cons, if_pos ne, ESX.drop_own]
  exact along_ve K
theorem exm_gen {S S' : Addr} {b : Bool} (h1 : PySem.W.subIn K (.ref S') (.type "BaseException") = some true) (h2 : PySem.W.isClsIn K S' = true) (h3 : PySem.W.typeIn K (.ref S') = some (.type "type")) (h4 : PySem.W.subIn K (.ref S) (.ref S') = some b) :
    PySem.W.exmOne K (.ref S) (.ref S') = some b := by
  have e1 : (PySem.W.subIn K (.ref S') (.type "BaseException") == some true) = true := by rw [h1] <;> rfl
  have e2 : ((PySem.W.clsIn K S').isSome && PySem.W.typeIn K (.ref S') == some (.type "type")) = true := by
    have h2' : (PySem.W.clsIn K S').isSome = true := h2
    rw [h2', h3] <;> rfl
  show (if (PySem.W.subIn K (.ref S') (.type "BaseException") == some true) = true then (if ((PySem.W.clsIn K S').isSome && PySem.W.typeIn K (.ref S') == some (.type "type")) = true then PySem.W.subIn K (.ref S) (.ref S') else none) else none) = some b
  rw [if_pos e1, if_pos e2]
  exact h4
end
end My
set_option Elab.async false
set_option linter.all false
set_option maxRecDepth 100000
set_option maxHeartbeats 4000000
/-! Further rules: sum of a tuple, len of a range, calls by keywords of a def that may raise. -/
namespace My
open PySem PySem.Spec PyProof.Rows L2
section
variable {prog : Program} {w : World} {A : Around} {E : Value → Shared → Prop} {s : Shared} {l : Addr} {its : List Value} {ns : List Int} {Q : Value → Shared → Prop}
theorem sum_tupRaw (hh : A.handled = none) (hl : s.heap.IsTuple l its.toArray) (hi : IntsAre its ns)
    (h : ∀ h' tk t', (∀ b o, s.heap.get? b = some o → h'.get? b = some o) → Q (.int ns.sum t') { s with heap := h', toks := tk }) : wpAny (model prog w) A (call (.builtin "sum") [.ref l]) Q E s := by
  obtain ⟨xs, e⟩ := hi.allInts.items
  have hn : numsOf (intItems xs).toList = ns := by rw [← e]; exact hi.numsOf
  rw [nums_intItems] at hn
  rw [e] at hl
  have hlt : l < s.heap.objs.size := by obtain ⟨_, e, _⟩ := hl; exact Heap.lt_size e
  refine call_sum_walkG (wpAny_pyIter_tuple hl ?_)
  refine ⟨_, _, _, _, _, _, numAt xs, rfl, Walks.tuple (A := A.in1) hh _ l (Nat.ne_of_lt hlt) (intItems xs), ⟨⟨_, Heap.get?_push_size _ rfl, rfl, rfl⟩, ?_⟩, (fun b hb => ?_), (fun _ _ => intItems_at), fun h' tk t' hk => ?_⟩
  · obtain ⟨o, e1, e2⟩ := hl
    exact ⟨o, Heap.get?_push_of_some _ e1, e2⟩
  · show b < (s.heap.push _).objs.size
    rw [Heap.size_push]
    rcases List.mem_cons.mp hb with rfl | hb
    · exact Nat.lt_succ_self _
    · rcases List.mem_cons.mp hb with rfl | hb
      · exact Nat.lt_succ_of_lt hlt
      · cases hb
  · have := h h' tk t' (fun b o e => hk b o (fun hm => by
      have z : b = s.heap.objs.size := by simpa using hm
      exact Nat.ne_of_lt (Heap.lt_size e) z) (Heap.get?_push_of_some _ e))
    have e2 : preSum (numAt xs) (intItems xs).size = ns.sum := by
      rw [preSum_eq, List.take_of_length_le (by simp [intItems]), hn]
    rw [e2]
    exact this
end
section
variable {X : Cx}
def rSumT (K : PySem.W.Frag) : List V → Hp → VK → Prop := fun vs H Q => ∃ (a : Addr) (ns : List Int), vs = [V.ref a] ∧ SqT K H a (ns.map V.int) ∧ Q (.int ns.sum) H
theorem cr_sumT (hc : X.calm = true) : CallR X (.builtin "sum") (rSumT X.K) := by
  intro pins s σ H vs us Q I r h
  obtain ⟨a, ns, rfl, hs, q⟩ := h
  obtain ⟨its, rv, hl, _⟩ := I.tuple hs
  rw [Vals.ref1 r]
  exact sum_tupRaw (I.ok.hd hc) hl rv.ints fun h' tk t' hk => ⟨.int _, H, I.kept hk, ⟨_, rfl⟩, q⟩
/-- len(range(a, b)) -/
def rLenR : List V → Hp → VK → Prop := fun vs H Q => ∃ (p : Addr) (lo hi : Int), vs = [V.ref p] ∧ H p = some (.rng lo hi) ∧ hi - lo < 2 ^ 62 ∧ Q (.int (if lo < hi then hi - lo else 0)) H
theorem call_lenR : CallR X (.builtin "len") rLenR := by
  intro pins s σ H vs us Q I r h
  obtain ⟨p, lo, hi, rfl, hp, hz, q⟩ := h
  rw [Vals.ref1 r]
  obtain ⟨t, u, v, ho⟩ := (show ObjOk X.prog X.w H s.heap p (.rng lo hi) from I.hok p _ hp)
  have e : ((if lo < hi then hi - lo else 0 : Int)) = (((if lo < hi then hi - lo else 0 : Int)).toNat : Int) := by split <;> omega
  refine call_len_range (n := ((if lo < hi then hi - lo else 0 : Int)).toNat) (a := lo) (b := hi) (c := 1) ho ?_ ?_ ?_
  · rw [rangeSize_one, ← e]
  · rw [← e]
    split <;> omega
  · rw [← e]
    exact ⟨.int _, H, I.tok _, ⟨_, rfl⟩, q⟩
def rRangeG : List V → Hp → VK → Prop := fun vs H Q => ∃ i j, vs = [V.int i, V.int j] ∧ New (.rng i j) H Q
theorem cr_rangeG : CallR X (.type "range") rRangeG := fun pins s σ H xs us Q I r ⟨i, j, h1, k⟩ => cr_range2 pins s σ H xs us Q I r ⟨i, j, h1, fun p hp => k.go p hp⟩
end
section
variable {X : Cx} {CX : CXT} {k : Nat} {f C : Addr} {fd : FuncData} {ps ks : List Str} {sp : Sp} {E : L2.St → XK} {x m : Str} {p pos apos kpos : Pos} {kws : List Keyword} {tk : TA} {g : List Value → List Value → List Value} {gV : List V → List V → List V}
theorem run_fnkS {pins : List (Addr × Obj)} {σ : L2.St} {H : Hp} {s : Shared} {Q : VK} {us ws : List Value} {vs zs : List V} (F : FnOk X.prog X.w X.K X.mg X.base CX k f fd ps sp) (hr : Room k X.A) (hb : KBinds X.K fd ps ks g gV) (hx : PassesAt CX X σ (E σ))
    (I : Inv X pins σ H s) (r : Vals vs us) (rz : Vals zs ws) (h : sp (gV vs zs) H Q (E σ)) : wpAny (model X.prog X.w) X.A (call (.ref f) us (ks.zip ws)) (EP X pins σ Q) X.xe s := by
  have r2 := hb.rel r rz
  have hl : (g us ws).length = ps.length := by rw [← r2.length]; exact F.len _ _ _ _ h
  refine wpAny_call (codeAny_mono (F.run X.A X.stack s H ⟨us, ks.zip ws⟩ (g us ws) (gV vs zs) Q (E σ) hr I.env0 (hb.to s us ws I.kIn hl) r2 h) fun r s' hq => ?_)
  cases r with
  | error e => exact hx pins H s e s' I hq
  | ok fl =>
    cases fl with
    | ret u => exact I.after hq
    | next => exact False.elim hq
    | brk => exact False.elim hq
    | cont => exact False.elim hq
def tCallKS (sp : Sp) (gV : List V → List V → List V) (E : L2.St → XK) (t tk : TA) : TE := fun σ H Q => t σ H fun vs H1 => tk σ H1 fun zs H2 => sp (gV vs zs) H2 Q (E σ)
/-- f(k = v, ..) in a try -/
theorem pe_callK0S (F : FnOk X.prog X.w X.K X.mg X.base CX k f fd ps sp) (hr : Room k X.A) (hg : Gl X x) (hm : X.mg x = some (.ref f)) (hk : PySem.W.keepIn X.K (.ref f) = true) (hb : KBinds X.K fd ps ks g gV) (hx : ∀ σ, PassesAt CX X σ (E σ))
    (hkw : PK X kws tk) (hall : (backToKw pos (keywordEach kws X.env)).all (·.1.isSome) = true := by rfl) (hks : (backToKw pos (keywordEach kws X.env)).filterMap (·.1) = ks := by rfl)
    (hdb : (x == ("__debug__" : Str)) = false := by decide)
    (hpl : ((backTo pos (starEach [] X.env)).any (·.1) || (backToKw pos (keywordEach kws X.env)).any (·.1.isNone)) = false := by rfl) :
    PE X (.Call (.Name x p) [] kws pos) (tCallKS sp gV E tNil tk) := by
  refine ⟨fun pins s σ H Q I h => ?_⟩
  refine wpAny_Call_Name_kw (ld_glob I hg hm ?_ hdb)
  refine PySem.W.callWith_KW0 (h₀ := X.base) I.ok.mod.kin hk hall ?_ hpl
  refine thn (hkw.run pos pins s σ H _ I h) fun ws s2 ⟨zs, H2, I2, rz, q2⟩ => ⟨I2.kIn, ?_⟩
  rw [hks]
  exact run_fnkS (us := []) (vs := []) F hr hb (hx σ) I2 .nil rz q2
variable {e : Expr} {es : List Expr} {t : TA}
/-- f(e, .., k = v, ..) in a try -/
theorem pe_callKS (F : FnOk X.prog X.w X.K X.mg X.base CX k f fd ps sp) (hr : Room k X.A) (hg : Gl X x) (hm : X.mg x = some (.ref f)) (hk : PySem.W.keepIn X.K (.ref f) = true) (hb : KBinds X.K fd ps ks g gV) (hx : ∀ σ, PassesAt CX X σ (E σ))
    (ha : PA X (e :: es) t) (hkw : PK X kws tk) (hall : (backToKw pos (keywordEach kws X.env)).all (·.1.isSome) = true := by rfl) (hks : (backToKw pos (keywordEach kws X.env)).filterMap (·.1) = ks := by rfl)
    (hdb : (x == ("__debug__" : Str)) = false := by decide) (he : starEach (e :: es) X.env = (false, eval e X.env) :: starEach es X.env := by rfl)
    (hpl : ((backTo pos (starEach (e :: es) X.env)).any (·.1) || (backToKw pos (keywordEach kws X.env)).any (·.1.isNone)) = false := by rfl) :
    PE X (.Call (.Name x p) (e :: es) kws pos) (tCallKS sp gV E t tk) := by
  refine ⟨fun pins s σ H Q I h => ?_⟩
  refine wpAny_Call_Name_kw (ld_glob I hg hm ?_ hdb)
  refine PySem.W.callWith_KW (h₀ := X.base) I.ok.mod.kin hk hall (thn (ha.run pos pins s σ H _ I h) fun us s1 ⟨vs, H1, I1, r, q⟩ => ?_) hpl he
  refine thn (hkw.run pos pins s1 σ H1 _ I1 q) fun ws s2 ⟨zs, H2, I2, rz, q2⟩ => ⟨I2.kIn, ?_⟩
  rw [hks]
  exact run_fnkS F hr hb (hx σ) I2 r rz q2
end
/-! rules within a comprehension: what may be kept by name is that of the def -/
section
variable {X : Cx} {K : PySem.W.Frag}
theorem crK {f : Value} {r : PySem.W.Frag → List V → Hp → VK → Prop} (h : X.K = K) (c : CallR X f (r X.K)) : CallR X f (r K) := h ▸ c
theorem ixK {r : PySem.W.Frag → R2} (h : X.K = K) (c : IxR X (r X.K)) : IxR X (r K) := h ▸ c
theorem opK {f : Value → Value → Sem Value} {r : PySem.W.Frag → R2} (h : X.K = K) (c : OpR X f (r X.K)) : OpR X f (r K) := h ▸ c
def rLenSq (K : PySem.W.Frag) : List V → Hp → VK → Prop := fun xs H Q => ∃ p ys, xs = [.ref p] ∧ (SqL K H p ys ∨ SqT K H p ys) ∧ Q (.int ys.length) H
end
end My
set_option Elab.async false
set_option linter.all false
set_option maxRecDepth 100000
set_option maxHeartbeats 4000000
/-! Defs under which repr may be asked: no repr is under way. -/
namespace My
open PySem PySem.Spec PyProof.Rows L2
structure FnOkG (P : Program) (w : World) (K : PySem.W.Frag) (mg : Str → Option Value) (base : Heap) (CX : CXT) (k : Nat) (f : Addr) (fd : FuncData) (ps : List Str) (sp : Sp) : Prop where
  len : ∀ vs H Q E, sp vs H Q E → vs.length = ps.length
  run : ∀ (A : Around) (outer : List Env) (s : Shared) (H : Hp) (args : Args) (us : List Value) (vs : List V) (Q : VK) (E : XK), Room k A → A.guards = some [] → Env0 P w K mg base A outer s H → BindsTo s fd args (ps.zip us) → Vals vs us → sp vs H Q E →
    codeAny (model P w) A (.call (.ref f) args) (CR CX outer P w H s Q E) s
theorem fn_ofG {CX : CXT} {P : Program} {w : World} {K : PySem.W.Frag} {mg : Str → Option Value} {base : Heap} {k : Nat} {f : Addr} {name qual : Str} {params : Arguments} {body : List Stmt} {scope : Scope} {dV kV doc pm cdv ct oc : Value} {an od : Option Addr}
    {osl : Array (Option Value)} {N ps : List Str} {sp : Sp} (lk : K.lookup f = some ⟨oc, od, .func (PySem.W.fnOf name qual params body scope dV kV doc pm an cdv ct), osl⟩) (hcd : PySem.W.codeIn K cdv qual = true) (S : FnScope N ps scope)
    (len : ∀ vs H Q E, sp vs H Q E → vs.length = ps.length)
    (hbody : ∀ (A : Around) (outer : List Env) (s : Shared) (H : Hp) (vs : List V) (Q : VK) (E : XK), Room k (A.deeper (envOfC qual scope s.heap.objs.size f cdv)) → A.guards = some [] → sp vs H Q E →
      ∃ t, PSs (cxOf CX P w K mg base N qual scope f cdv A outer s H E) body t ∧ t { nx := fun _ H' => Q .non H', rt := Q } (start N vs) H) :
    FnOkG P w K mg base CX (k + 1) f (PySem.W.fnOf name qual params body scope dV kV doc pm an cdv ct) ps sp := by
  refine ⟨len, fun A outer s H args us vs Q E hr hg e0 hb r hsp => ?_⟩
  have hl := len _ _ _ _ hsp
  have KX : K.In s.heap := e0.mod.kin.keeps fun b o e => (e0.bs b o e).1
  have lim : s.heap.NoLimit := e0.mod.nolimit.keeps fun b o e => (e0.bs b o e).1
  refine codeAny_call_function hr.depth (KX _ _ lk) rfl S.co S.gen rfl (PySem.W.codeRec_of KX hcd) (hb _ _ _ _ ?_)
  refine wpAny_newFunctionEnv_cells S.kind (fun ⟨n, v⟩ hy => ?_) fun env he s1 x => ?_
  · rcases S.par n (List.of_mem_zip hy).1 with q | q
    · exact .inl q
    · exact .inr ⟨q, PySem.W.cellsFrom_some _ _ _ (.inl q)⟩
  subst he
  refine ⟨lim.keeps x.toInCall.keep, codeAny_func ?_⟩
  obtain ⟨t, ht, hq⟩ := hbody A outer s H vs Q E (hr.deeper _) hg hsp
  have I : Inv (cxOf CX P w K mg base N qual scope f cdv A outer s H E) [] (start N vs) H s1 := inv_start S hr.hd e0 hl r x
  refine wpAny_mono (ht.run [] s1 (start N vs) H _ I hq) (fun fl s' hs => ?_) fun e s' hs => hs
  cases fl with
  | ret u =>
    obtain ⟨v, σ', H', J, rv, q⟩ := hs
    exact ⟨v, H', J.os, J.bare, J.base, J.hok, rv, q⟩
  | next =>
    obtain ⟨σ', H', J, q⟩ := hs
    exact ⟨.non, H', J.os, J.bare, J.base, J.hok, rfl, q⟩
  | brk =>
    obtain ⟨_, _, _, q⟩ := hs
    exact False.elim q
  | cont =>
    obtain ⟨_, _, _, q⟩ := hs
    exact False.elim q
section
variable {P : Program} {w : World} {K : PySem.W.Frag} {mg : Str → Option Value} {base : Heap}
theorem _root_.L2.Fun.okG {x qual : Str} {st : Stmt} {f : Addr} {fd : FuncData} {N ps : List Str} {k : Nat} {sp : Sp} (F : Fun K x qual st f fd) (S : FnScope N ps (defScope st)) (len : ∀ vs H Q E, sp vs H Q E → vs.length = ps.length)
    (hbody : ∀ (cdv : Value) (A : Around) (outer : List Env) (s : Shared) (H : Hp) (vs : List V) (Q : VK) (E : XK), Room k (A.deeper (envOfC qual (defScope st) s.heap.objs.size f cdv)) → A.guards = some [] → sp vs H Q E →
      ∃ t, PSs (cxOf CX0 P w K mg base N qual (defScope st) f cdv A outer s H E).nox (defBody st) t ∧ t { nx := fun _ H' => Q .non H', rt := Q } (start N vs) H) : FnOkG P w K mg base CX0 (k + 1) f fd ps sp := by
  obtain ⟨oc, od, kV, doc, pm, an, cdv, ct, osl, rfl, lk, hcd⟩ := F.ex
  refine fn_ofG lk hcd S len fun A outer s H vs Q E hr hg hsp => ?_
  obtain ⟨t, h, q⟩ := hbody cdv A outer s H vs Q E hr hg hsp
  exact ⟨t, h.nox, q⟩
end
section
variable {X : Cx} {CX : CXT} {k : Nat} {f : Addr} {fd : FuncData} {ps : List Str} {sp : Sp} {dvs : List V} {ds : List Value} {E : XK} {x : Str} {p pos : Pos} {e : Expr} {es : List Expr} {t : TA}
theorem pe_callG (F : FnOkG X.prog X.w X.K X.mg X.base CX k f fd ps sp) (hr : Room k X.A) (gd : X.A.guards = some []) (hg : Gl X x) (hm : X.mg x = some (.ref f)) (hk : PySem.W.keepIn X.K (.ref f) = true) (hb : Binds X.K fd ps ds) (hd : Vals dvs ds) (hx : Passes CX X E)
    (ha : PA X (e :: es) t) (hdb : (x == ("__debug__" : Str)) = false := by decide) (he : starEach (e :: es) X.env = (false, eval e X.env) :: starEach es X.env := by rfl) (hpl : (backTo pos (starEach es X.env)).any (·.1) = false := by rfl) :
    PE X (.Call (.Name x p) (e :: es) [] pos) (tCall sp dvs E t) := by
  refine ⟨fun pins s σ H Q I h => ?_⟩
  refine wpAny_Call_Name_kw (ld_glob I hg hm ?_ hdb)
  refine PySem.W.callWith_K (h₀ := X.base) I.ok.mod.kin hk (thn (ha.run pos pins s σ H _ I h) fun us s1 ⟨vs, H1, I1, r, q⟩ => ⟨I1.kIn, ?_⟩) he hpl
  have r2 : Vals (vs ++ dvs) (us ++ ds) := r.append hd
  have hl : (us ++ ds).length = ps.length := by rw [← r2.length]; exact F.len _ _ _ _ q
  refine wpAny_call (codeAny_mono (F.run X.A X.stack s1 H1 ⟨us, []⟩ (us ++ ds) (vs ++ dvs) Q E hr gd I1.env0 (hb s1 us I1.kIn hl) r2 q) fun r s' hq => ?_)
  cases r with
  | error e => exact hx pins σ H1 s1 e s' I1 hq
  | ok fl =>
    cases fl with
    | ret u => exact I1.after hq
    | next => exact False.elim hq
    | brk => exact False.elim hq
    | cont => exact False.elim hq
/-- repr of data without dicts -/
def rRepr (K : PySem.W.Frag) : List V → Hp → VK → Prop := fun vs H Q => ∃ (v : V) (d : PyData), vs = [v] ∧ Dp K H v d ∧ d.showable = true ∧ d.hasDict = false ∧ d.depth ≤ 60 ∧ d.shown.length ≤ sizeLine ∧ (∃ a, v = .ref a) ∧ Q (.str d.shown) H
theorem cr_repr (gd : X.A.guards = some []) (hu : X.A.units + 64 < cLine) : CallR X (.builtin "repr") (rRepr X.K) := by
  intro pins s σ H vs us Q I r h
  obtain ⟨v, d, rfl, hd, h1, h2, h3, h4, ⟨a, rfl⟩, q⟩ := h
  rw [Vals.ref1 r]
  obtain ⟨as, rd⟩ := Dp.reads I d (.ref a) (.ref a) hd rfl
  exact repr_of_reads' rd h1 (fun z => by rw [h2] at z; cases z) gd (by omega) (fun b o e => e) (fun h' u tk hk => ⟨.str d.shown, H, I.kept hk, ⟨_, rfl⟩, q⟩) h4
end
/-! ### the head: nothing of repr is under way where the law is called -/
theorem law_callG {P : Program} {w : World} {K : PySem.W.Frag} {mg mb : Str → Option Value} {CX : CXT} {k : Nat} {fa a : Addr} {fd : FuncData} {x : Str} {sp : Sp} {s₁ : Shared} {vs : List Value} {ns : List Int}
    (KX : K.In s₁.heap) (hns : s₁.heap.Ns mainGlobals mg) (hb : s₁.heap.Ns builtinsNs mb) (hbb : ∀ x : Str, x ≠ "__name__" → mb x = bootBuiltins x) (hlim : s₁.heap.NoLimit) (hg : s₁.gens = #[])
    (ha : s₁.heap.get? a = some { cls := .type "list", data := .seq vs.toArray }) (hi : IntsAre vs ns) (hl : ns.length ≤ sizeLine) (hr : Room k callerA)
    (F : ∀ base : Heap, K.In base → base.Ns mainGlobals mg → FnOkG P w K mg base CX k fa fd [x] sp) (hbind : ∀ (s : Shared) (u : Value), BindsTo s fd ⟨[u], []⟩ [(x, u)])
    (hsp : ∀ H : Hp, Only H → SqL K H a (ns.map V.int) → sp [.ref a] H (fun v _ => v = .bl true) fun _ _ _ => False)
    (hCX : ∀ H e s', CX [] H s₁ (fun _ _ _ => False) e s' → False) :
    codeAny (model P w) callerA (.call (.ref fa) ⟨[.ref a], []⟩) (fun r s' => r = .ok (.ret (.bool true)) ∧ OldK s₁.heap s'.heap ∧ s'.os = s₁.os ∧ AllBare s'.gens) s₁ := by
  have rv := vals_ints hi
  have lenV := hi.length
  have core : ∀ H : Hp, Only H → SqL K H a (ns.map V.int) → HOk P w H s₁.heap → (∀ b, H b ≠ none → b = a) → (H a ≠ none → K.lookup a = none) →
      codeAny (model P w) callerA (.call (.ref fa) ⟨[.ref a], []⟩) (fun r s' => r = .ok (.ret (.bool true)) ∧ OldK s₁.heap s'.heap ∧ s'.os = s₁.os ∧ AllBare s'.gens) s₁ := by
    intro H hO hS hok hA hK
    have free : ∀ {b : Addr} {P : Prop}, (∀ u, H b = some u → b = a → P → False) → P → H b = none := fun {b P} h p => by
      cases q : H b with
      | none => rfl
      | some u => exact (h u q (hA b (by rw [q]; simp)) p).elim
    have noA : ∀ {b : Addr} {o : Obj} {es : Array DictEntry} {ep : Nat}, s₁.heap.get? b = some o → o.data = .dict es ep → H b = none := fun {b o es ep} e d => free (P := True) (fun u q e' _ => by
      subst e'
      rw [ha] at e
      cases e
      cases d) trivial
    have nsK : ∀ {b : Addr} {m : Str → Option Value}, s₁.heap.Ns b m → (hidT s₁.heap H).Ns b m := fun {b m} ⟨o, es, ep, e, d, r⟩ => ⟨o, es, ep, hidT_get e (noA e d), d, r⟩
    have hKb : K.In (hidT s₁.heap H) := fun b o e => hidT_get (KX b o e) (free (P := True) (fun u q e' _ => by
      subst e'
      rw [hK (by rw [q]; simp)] at e
      cases e) trivial)
    have hM : Mod K mg (hidT s₁.heap H) := ⟨hKb, nsK hns, ⟨mb, nsK hb, hbb⟩, let ⟨mc, h1, h2⟩ := hlim; ⟨mc, nsK h1, h2⟩⟩
    have e0 : Env0 P w K mg (hidT s₁.heap H) callerA [] s₁ H := ⟨rfl, hM, fun b o e => of_hidT e, Nat.le_of_eq (hidT_size _ _), trivial, fun b hb => absurd (show b ∈ ([] : List Addr) from hb) (by simp), hok, .of_eq hg⟩
    refine codeAny_mono ((F _ hKb (nsK hns)).run callerA [] s₁ H ⟨[.ref a], []⟩ [.ref a] [.ref a] _ _ hr rfl e0 (hbind s₁ (.ref a)) (.cons rfl .nil) (hsp H hO hS)) fun r s' h => ?_
    cases r with
    | error e => exact (hCX H e s' h).elim
    | ok fl =>
      cases fl with
      | next => exact False.elim h
      | brk => exact False.elim h
      | cont => exact False.elim h
      | ret u =>
        obtain ⟨v, H', os, bare, un, hok', r', q⟩ := h
        have q' : v = .bl true := q
        subst q'
        obtain rfl : u = Value.bool true := r'
        refine ⟨rfl, OldK.of_keep fun b o e => ?_, os, bare⟩
        rcases hO b with z | ⟨ob, xs, z⟩
        · exact un.keep b o e z (by intro z; exact absurd (show b ∈ ([] : List Addr) from z) (by simp)) (by simp)
        · have z2 := un.frzs b ob _ z
          obtain ⟨e1, _⟩ := hok b _ z
          obtain ⟨e2, _⟩ := hok' b _ z2
          rw [e] at e1
          cases e1
          exact e2
  cases hk : K.lookup a with
  | some o =>
    have e := KX a o hk
    rw [ha] at e
    cases e
    exact core (fun _ => none) (fun _ => .inl rfl) (.inr ⟨_, vs.toArray, _, hk, rfl, rfl, rfl, by rw [List.size_toArray, lenV]; exact hl, by simpa using rv⟩) (fun b u z => nomatch (show (none : Option HO) = some u from z)) (fun b z => absurd rfl z) fun z => absurd rfl z
  | none =>
    refine core (fun b => if b = a then some (.frz { cls := .type "list", data := .seq vs.toArray } (.lst (ns.map V.int))) else none) (fun b => ?_) (.inl (.inr ⟨{ cls := .type "list", data := .seq vs.toArray }, if_pos rfl⟩)) (fun b u z => ?_) (fun b z => ?_) fun _ => hk
    · by_cases hb : b = a
      · exact .inr ⟨_, _, if_pos hb⟩
      · exact .inl (if_neg hb)
    · by_cases hb : b = a
      · have z' := (if_pos hb).symm.trans z
        cases z'
        subst hb
        exact ⟨ha, by rw [List.length_map]; exact hl, vs, _, rv, ha⟩
      · have z' := (if_neg hb).symm.trans z
        cases z'
    · by_cases hb : b = a
      · exact hb
      · exact absurd (if_neg hb) z
theorem walk_ofG {l : PySem.W.OpenLaw} {n k : Nat} {q : Program} {loose : List Str} {XP : (Str → Option Value) → Heap → Prop} {YP : World → Heap → Prop} {d : DefRec} {K : Params → PySem.W.Frag} {CX : World → CXT} {sp : World → Sp} {x : Str}
    (hn : l.most = some n) (hn2 : n ≤ sizeLine) (hdf : d.params.defaults = []) (hr : Room k callerA)
    (hY : ∀ (w : World) (h : Heap), YP w h → (K w.params).In h)
    (F : ∀ (w : World) (mg : Str → Option Value) (fa : Addr) (h : Heap), (K w.params).In h → h.Ns mainGlobals mg → mg d.name = some (.ref fa) →
      ∃ fd : FuncData, (∀ (s : Shared) (u : Value), BindsTo s fd ⟨[u], []⟩ [(x, u)]) ∧
        ∀ base : Heap, (K w.params).In base → base.Ns mainGlobals mg → FnOkG l.prog w (K w.params) mg base (CX w) k fa fd [x] (sp w))
    (hsp : ∀ (w : World) (H : Hp) (a : Addr) (ns : List Int), ns.length ≤ n → Only H → SqL (K w.params) H a (ns.map V.int) → sp w [.ref a] H (fun v _ => v = .bl true) fun _ _ _ => False)
    (hCX : ∀ (w : World) (H : Hp) (s : Shared) (e : Value) (s' : Shared), CX w [] H s (fun _ _ _ => False) e s' → False) :
    PySem.W.WalkO q loose XP YP l.row.toRowW d [] (fun f vs => PySem.call f vs) := by
  refine Att.attach_call hn hdf fun w s₀ s₁ mg mb fa o pm cd doc a vs ns G Y ho hd hcd hmg hobj hints hlen hg => ?_
  have KX := hY w _ Y
  obtain ⟨fd, hb, hF⟩ := F w mg fa _ KX G.T.g hmg
  exact law_callG KX G.T.g G.T.b G.T.builtins G.T.nolimit hg hobj hints (Nat.le_trans hlen hn2) hr hF hb (fun H hO hS => hsp w H a ns hlen hO hS) fun H e s' => hCX w H s₁ e s'
end My
set_option Elab.async false
set_option linter.all false
set_option maxRecDepth 100000
set_option maxHeartbeats 4000000
/-! sorted(d) of a dict whose keys are ints. -/
namespace My
open PySem PySem.Spec PyProof.Rows L2
theorem len_dict : typeLookup (.type "dict") "__len__" = pure (some (.builtin "dict.__len__")) := by rw [typeLookup_type, builtinLookup_eq_fast]; kernel_rfl
section
variable {prog : Program} {w : World} {A : Around} {E : Value → Shared → Prop} {s : Shared} {d : Addr} {od : Obj} {es : Array DictEntry} {ep : Nat}
theorem dict_hint (hT : s.TypeIs (.ref d) "dict") {Q : Bool → Shared → Prop} (h : Q false s) : wpAny (model prog w) A (Builtin.List.listLengthHint (.ref d)) Q E s := by
  unfold Builtin.List.listLengthHint
  refine wpAny_bind (wpAny_specialOf hT len_dict ?_)
  generalize hid : ("dict.__len__" : String) = id0
  wp_delta
  rw [show splitId id0 = some ("dict", "__len__") from by subst hid; decide +kernel]
  subst hid
  refine wpAny_bind (wpAny_isInstance (T := "dict") (b := true) hT (by rw [isSubtype_type]; kernel_rfl) ?_)
  refine wpAny_ite_split (fun hab => absurd hab (by decide)) (fun _ => ?_)
  refine wpAny_ite_split (fun _ => ?_) (fun hab => absurd (by decide +kernel) hab)
  refine wpAny_bind (wpAny_typeOf hT ?_)
  exact wpAny_pure h
/-- the loop that takes the keys -/
theorem loopD {R : Result → Shared → Prop} {S I : Addr} (hh : A.handled = none) (hSI : S ≠ I) (hSd : d ≠ S) (hId : d ≠ I) (hn : es.size ≤ sizeLine) (res : Value) {h₁ : Heap} (hdd : od.data = .dict es ep)
    (hR : ∀ h' c, (∀ b o, b ≠ S → b ≠ I → h₁.get? b = some o → h'.get? b = some o) → h'.get? S = some { cls := .type "list", dict := none, data := .seq (es.map (·.key)) c, slots := #[] } → R (.ok (.ret res)) { s with heap := h' }) :
    ∀ (k i : Nat) (h : Heap) (c : Nat) (acc : Array Value), es.size - i = k → i ≤ es.size → h.IsKeyIter I d i es.size ep → h.get? d = some od → (∀ b o, b ≠ S → b ≠ I → h₁.get? b = some o → h.get? b = some o) →
      h.get? S = some { cls := .type "list", dict := none, data := .seq acc c, slots := #[] } → acc.toList = (es.toList.take i).map (·.key) →
      codeAny (model prog w) A (.builtin "list.extend.loop" ⟨[.ref S, .ref I, res], []⟩) R { s with heap := h } := by
  intro k
  induction k with
  | zero =>
    intro i h c acc hk hi hst hD hkeep hS hacc
    refine codeAny_builtin PySem.F.entry_extend_loop ?_
    rw [Around.under_plainId PySem.F.plain_extend_loop _]
    show wpAny _ A.in1 (pyNext (.ref I) >>= _) _ _ _
    refine wpAny_bind (next_key_end (s := { s with heap := h }) (A := A.in1) hh hst hD hdd rfl (by omega) fun h' he => ?_)
    have ea : acc = es.map (·.key) := by
      apply Array.toList_inj.mp
      rw [hacc, List.take_of_length_le (by rw [Array.length_toList]; omega), Array.toList_map]
    rw [ea] at hS
    exact wpAny_pure (hR h' c (fun b o h1 h2 e => he b o h2 (hkeep b o h1 h2 e)) (he S _ hSI hS))
  | succ k ih =>
    intro i h c acc hk hi hst hD hkeep hS hacc
    have hlt : i < es.size := by omega
    have hsz : acc.size = i := by rw [← Array.length_toList, hacc, List.length_map, List.length_take, Array.length_toList]; omega
    refine codeAny_builtin PySem.F.entry_extend_loop ?_
    rw [Around.under_plainId PySem.F.plain_extend_loop _]
    show wpAny _ A.in1 (pyNext (.ref I) >>= _) _ _ _
    refine wpAny_bind (next_key_item (s := { s with heap := h }) (en := es[i]) hst hD hdd rfl (Array.getElem?_eq_getElem hlt) fun h' hst' hs' => ?_)
    have hS' := hs'.extBut S _ hSI hS
    have up : ∀ b o, b ≠ S → h'.get? b = some o → (h'.update S (Obj.mapSeq (·.push es[i].key))).get? b = some o := fun b o hb e => (Heap.get?_update_other _ _ (Ne.symm hb)).trans e
    show wpAny _ A.in1 (updateSeq S (·.push es[i].key) >>= _) _ _ _
    refine wpAny_bind ?_
    refine wpAny_updateSeq hS' rfl (wpAny_pure ⟨plainId_quiet PySem.F.plain_extend_loop _, ih (i + 1) _ _ (acc.push es[i].key) (by omega) hlt (hst'.at fun o e => up _ o hSI.symm e) (up d _ hSd (hs'.extBut d _ hId hD))
      (fun b o h1 h2 e => up b o h1 (hs'.extBut b _ h2 (hkeep b o h1 h2 e))) (Heap.get?_update_self _ hS' rfl) ?_⟩) (by rw [hsz]; omega) (by show (acc.push es[i].key).size ≤ sizeLine + 1; rw [Array.size_push, hsz]; omega)
    rw [Array.toList_push, hacc, List.take_add_one, Array.getElem?_toList, Array.getElem?_eq_getElem hlt, List.map_append]
    rfl
theorem extD {R : Result → Shared → Prop} {P2 : Program} {κ : Type} [DecidableEq κ] {knd : PySem.KeyKind prog w κ} {kvs : List (κ × Value)} (hh : A.handled = none) (hsys : (d == sysModules) = false) (hm : s.heap.DictAt knd d kvs ep) (ho : s.heap.get? d = some od) (hdd : od.data = .dict es ep) (hk : kvs.length = es.size) (S : Addr) (hSd : d ≠ S) (res : Value) (c₀ : Nat) (hS : s.heap.get? S = some { cls := .type "list", data := .seq #[] c₀ })
    (hR : ∀ h' c, (∀ b o, b ≠ S → s.heap.get? b = some o → h'.get? b = some o) → h'.get? S = some { cls := .type "list", dict := none, data := .seq (es.map (·.key)) c, slots := #[] } → R (.ok (.ret res)) { s with heap := h' }) (hn : es.size ≤ sizeLine) :
    wpAny (model prog w) A.in1 (Builtin.List.listExtendWith (.ref S) (.ref d) res)
      (fun fin s' => match fin with | .done f => R (.ok f) s' | .again c' => c'.quiet = true ∧ codeAny (model prog w) A c' R s') (fun e s' => R (.error e) s') s := by
  have hSI : S < s.heap.objs.size := Heap.lt_size hS
  have hdI : d < s.heap.objs.size := Heap.lt_size ho
  have hT : s.TypeIs (.ref d) "dict" := hm.dictOf.typeIs
  have key : ∀ (h : Heap) (c₁ : Nat), (∀ b o, b ≠ S → (s.heap.push { cls := .type "dict_keyiterator", data := .fields #[.ref d, .int 0 0, .int kvs.length 0, .int ep 0] }).get? b = some o → h.get? b = some o) →
      h.get? S = some { cls := .type "list", data := .seq #[] c₁ } → codeAny (model prog w) A (.builtin "list.extend.loop" ⟨[.ref S, .ref s.heap.objs.size, res], []⟩) R { s with heap := h } := by
    intro h c₁ hk' hS₁
    have hI := hk' s.heap.objs.size _ (Nat.ne_of_gt hSI) (Heap.get?_push_size _ rfl)
    rw [hk] at hI
    exact loopD (s := s) (h₁ := s.heap) hh (Nat.ne_of_lt hSI) hSd (Nat.ne_of_lt hdI) hn res hdd (fun h' c hk2 hS2 => hR h' c (fun b o hb e => hk2 b o hb (Nat.ne_of_lt (Heap.lt_size e)) e) hS2)
      es.size 0 h c₁ #[] (Nat.sub_zero _) (Nat.zero_le _) ⟨_, hI, rfl, rfl⟩ (hk' d _ hSd (Heap.get?_push_of_some _ ho)) (fun b o hb _ e => hk' b o hb (Heap.get?_push_of_some _ e)) hS₁ rfl
  unfold Builtin.List.listExtendWith
  refine wpAny_bind (wpAny_typeOf (T := "dict") hT ?_)
  have h1 : Builtin.List.listSameRef (.ref S) (.ref d) = false := by simp [Builtin.List.listSameRef, Ne.symm hSd]
  have h2 : (Value.type "dict" == Value.type "list") = false := by decide
  have h3 : (Value.type "dict" == Value.type "tuple") = false := by decide
  simp only [h1, h2, h3, Bool.or_false, Bool.false_eq_true, if_false]
  refine wpAny_bind (wpAny_pyIter_dict hsys hm ?_)
  have hS₁ := Heap.get?_push_of_some { cls := .type "dict_keyiterator", data := .fields #[.ref d, .int 0 0, .int kvs.length 0, .int ep 0] } hS
  refine wpAny_bind (wpAny_holding (dict_hint (let ⟨o, ho, hc⟩ := hT; ⟨o, Heap.get?_push_of_some _ ho, hc⟩) ?_))
  refine wpAny_ite_split (fun _ => ?_) (fun _ => wpAny_pure ⟨plainId_quiet PySem.F.plain_extend_loop _, key _ c₀ (fun b o _ e => e) hS₁⟩)
  refine wpAny_bind (wpAny_rule ?_)
  refine wpAny_bind ?_
  show wpAny _ _ (updateSeq S (·.push .none) >>= fun _ => updateSeq S (·.pop)) _ _ _
  refine wpAny_bind (wpAny_updateSeq hS₁ rfl ?_)
  have hS₂ := Heap.get?_update_self (Obj.mapSeq (·.push Value.none)) hS₁ rfl
  refine wpAny_updateSeq (hz := by seq_fits) hS₂ rfl ?_
  have hS₃ := Heap.get?_update_self (Obj.mapSeq (·.pop)) hS₂ rfl
  refine wpAny_pure ⟨plainId_quiet PySem.F.plain_extend_loop _, key _ _ (fun b o hb e => ?_) hS₃⟩
  exact (Heap.get?_update_other _ _ (Ne.symm hb)).trans ((Heap.get?_update_other _ _ (Ne.symm hb)).trans e)
theorem collectD {R : List Value → Shared → Prop} {κ : Type} [DecidableEq κ] {knd : PySem.KeyKind prog w κ} {kvs : List (κ × Value)} (hh : A.handled = none) (hsys : (d == sysModules) = false) (hm : s.heap.DictAt knd d kvs ep) (ho : s.heap.get? d = some od) (hdd : od.data = .dict es ep) (hk : kvs.length = es.size) (hn : es.size ≤ sizeLine)
    (h : ∀ (h' : Heap), (∀ b o, s.heap.get? b = some o → h'.get? b = some o) → s.heap.objs.size < h'.objs.size → R (es.toList.map (·.key)) { s with heap := h' }) :
    wpAny (model prog w) A (collect (.ref d)) R E s := by
  have hd : d < s.heap.objs.size := Heap.lt_size ho
  unfold collect
  refine wpAny_bind (wpAny_runValue (codeAny_builtin entry_proto_collect' ?_))
  rw [Around.under_plainId PySem.F.plain_proto_collect _]
  show wpAny _ A.in1 (newList [] >>= fun l => again (.builtin "list.__iadd__" ⟨[l, .ref d], []⟩)) _ _ s
  refine wpAny_bind (wpAny_newObj_type ?_)
  refine wpAny_pure ⟨plainId_quiet PySem.F.plain_list_iadd _, codeAny_builtin entry_list_iadd' ?_⟩
  rw [Around.under_plainId PySem.F.plain_list_iadd _]
  have hS₁ : (s.heap.push { cls := .type "list", data := .seq ([] : List Value).toArray }).get? s.heap.objs.size = some { cls := .type "list", data := .seq #[] } := Heap.get?_push_size _ rfl
  show wpAny _ A.in1 (Builtin.List.listExtendWith (.ref s.heap.objs.size) (.ref d) (.ref s.heap.objs.size)) _ _ _
  have key := extD (prog := prog) (w := w) (A := A) (P2 := prog) (s := { s with heap := s.heap.push { cls := .type "list", data := .seq ([] : List Value).toArray } }) (es := es) (ep := ep) (od := od) (knd := knd) (kvs := kvs)
    (R := fun (q : Result) (s' : Shared) => ∃ (h' : Heap) (c' : Nat), q = .ok (.ret (.ref s.heap.objs.size)) ∧ s' = { s with heap := h' } ∧
      (∀ b o, s.heap.get? b = some o → h'.get? b = some o) ∧ h'.get? s.heap.objs.size = some { cls := .type "list", dict := none, data := .seq (es.map (·.key)) c', slots := #[] })
    hh hsys (hm.push _) (Heap.get?_push_of_some _ ho) hdd hk s.heap.objs.size (Nat.ne_of_lt hd) (.ref s.heap.objs.size) 0 hS₁
    (fun h' c' hk2 hS' => ⟨h', c', rfl, rfl, fun b o e => hk2 b o (Nat.ne_of_lt (Heap.lt_size e)) (Heap.get?_push_of_some _ e), hS'⟩) hn
  have fin : ∀ (h' : Heap) (c' : Nat), (∀ b o, s.heap.get? b = some o → h'.get? b = some o) → h'.get? s.heap.objs.size = some { cls := .type "list", dict := none, data := .seq (es.map (·.key)) c', slots := #[] } → R (es.map (·.key)).toList { s with heap := h' } := fun h' c' hk2 hS' => by
    rw [Array.toList_map]
    exact h h' hk2 (Heap.lt_size hS')
  refine wpAny_mono key (fun fn s' x => ?_) fun e s' x => ?_
  · cases fn with
    | done f =>
      obtain ⟨h', c', e, rfl, hk2, hS'⟩ := x
      cases e
      show wpAny _ A (load s.heap.objs.size >>= _) _ _ _
      refine wpAny_bind (wpAny_load hS' ?_)
      exact wpAny_pure (fin h' c' hk2 hS')
    | again c₁ =>
      refine ⟨x.1, codeAny_mono x.2 fun q s₂ y => ?_⟩
      obtain ⟨h', c', rfl, rfl, hk2, hS'⟩ := y
      show wpAny _ A (load s.heap.objs.size >>= _) _ _ _
      refine wpAny_bind (wpAny_load hS' ?_)
      exact wpAny_pure (fin h' c' hk2 hS')
  · obtain ⟨_, _, e', _⟩ := x
    cases e'
end
section
variable {X : Cx}
theorem keys_of {P : Program} {w : World} : ∀ {es : List DictEntry} {kvs : List (Key × Value)}, Pairs (mixKind P w) es kvs → es.length = kvs.length ∧ ∀ ns : List Int, kvs.map (·.1) = ns.map Sum.inl → IntsAre (es.map (·.key)) ns
  | _, _, .nil => ⟨rfl, fun ns h => by
    cases ns with
    | nil => exact .nil
    | cons n ns => cases h⟩
  | _, _, .cons hk hv hp => by
    obtain ⟨h1, h2⟩ := keys_of hp
    refine ⟨by simp [h1], fun ns h => ?_⟩
    cases ns with
    | nil => cases h
    | cons n ns =>
      injection h with e1 e2
      dsimp only at e1
      rcases keyIs_shape hk with ⟨i, t, h3, h4⟩ | ⟨x, t, h3, h4⟩
      · rw [h3] at e1
        cases e1
        rw [List.map_cons, h4]
        exact .cons _ _ (h2 ns e2)
      · rw [h3] at e1
        cases e1
/-- sorted(d), the keys ints -/
def rSortedD : List V → Hp → VK → Prop := fun vs H Q => ∃ (a : Addr) (kvs : List (Key × V)) (ns : List Int), vs = [V.ref a] ∧ H a = some (.dK kvs) ∧ kvs.map (·.1) = ns.map Sum.inl ∧ ∀ ns' : List Int, ns'.Perm ns → ns'.Pairwise (· ≤ ·) → New (.lst (ns'.map V.int)) H Q
theorem cr_sortedD (hc : X.calm = true) : CallR X (.builtin "sorted") rSortedD := by
  intro pins s σ H vs us Q I r h
  obtain ⟨a, kvs, ns, rfl, ha, hk, q⟩ := h
  rw [Vals.ref1 r]
  obtain ⟨z, hsys, vs, rel, dd⟩ := dk_of I.hok ha
  obtain ⟨ep, dat⟩ := dd.dictAt
  obtain ⟨od, es, ho, hex, hdat, hks, hp, hnd⟩ := id dat
  obtain ⟨l1, hi⟩ := keys_of hp
  have ek : vs.map (·.1) = kvs.map (·.1) := by
    have : ∀ {kvs : List (Key × V)} {vs : List (Key × Value)}, KV kvs vs → vs.map (·.1) = kvs.map (·.1) := fun rel => by
      induction rel with
      | nil => rfl
      | cons h _ ih => rw [List.map_cons, List.map_cons, ih, h.1]
    exact this rel
  have hI := hi ns (ek.trans hk)
  have lk : vs.length = es.size := by rw [← l1, Array.length_toList]
  have lz : es.size ≤ sizeLine := by
    rw [← lk, ← List.length_map (f := (·.1)), ek, List.length_map]
    exact z
  refine Calls.call_function_entry kind_sorted plain_sorted entry_sorted (args_sorted1 _) ?_
  unfold Builtin.«sorted»
  refine wpAny_bind (m := checkCount "sorted" 1 1 _) (wpAny_pure ?_)
  refine wpAny_bind (collectD (A := X.A.in1) (I.ok.hd hc) hsys dat ho hdat lk lz fun h' hk' hlt => ?_)
  refine wpAny_bind (wpAny_newList ?_ (by rw [List.length_map, Array.length_toList]; exact lz))
  have hoL : (h'.push (seqObj "list" (es.toList.map (·.key)).toArray 0)).get? h'.objs.size = some (seqObj "list" (es.toList.map (·.key)).toArray 0) := Heap.get?_push_size _ rfl
  refine wpAny_bind (wpAny_holding (wpAny_call_entry PyProof.Rows.slot_list_sort ⟨_, hoL, rfl⟩ PyProof.Rows.entry_list_sort
    (SrtO.list_sort_ord SrtO.swo_int hoL (by rw [List.length_map, Array.length_toList]; exact lz) (fun h2 => SrtO.ints_sortable hI h2) fun out h1 h2 => ⟨_, rfl, ?_⟩) (PyProof.Rows.args_list_sort _)))
  obtain ⟨k1, k2, k3⟩ := SrtO.ints_out hI h1 h2
  obtain ⟨c, hc'⟩ := sortedHeap_at (vs := es.toList.map (·.key)) (out := out.toArray) hoL
  have hlen : ((out.map SrtO.iv).map V.int).length ≤ sizeLine := by
    rw [List.length_map, k2.length_eq, ← hI.length, List.length_map, Array.length_toList]
    exact lz
  have hle : s.heap.objs.size ≤ h'.objs.size := Nat.le_of_lt hlt
  have hn : H h'.objs.size = none := I.hok.fresh hle
  refine wpAny_pure ⟨_, rfl, .ref _, upd H h'.objs.size (.lst ((out.map SrtO.iv).map V.int)), I.laid (t' := s.toks) (fun b o e => ?_) hle ⟨hlen, out, c, vals_of_ints k1, hc'⟩, rfl, (q _ k2 k3).go _ hn⟩
  have e1 := hk' b o e
  have hb := Heap.lt_size e1
  rw [sortedHeap_old (Nat.ne_of_lt hb) (by rw [Heap.size_push]; exact Nat.lt_succ_of_lt hb)]
  exact Heap.get?_push_of_some _ e1
end
end My
set_option Elab.async false
set_option linter.all false
set_option maxRecDepth 100000
set_option maxHeartbeats 4000000
/-! dicts with int keys, as a list of keys and a function. -/
namespace My
open PySem L2
def kvsOf (ns : List Int) (g : Int → V) : List (Key × V) := ns.map fun n => (Sum.inl n, g n)
theorem kvs_keys (ns : List Int) (g : Int → V) : (kvsOf ns g).map (·.1) = ns.map Sum.inl := by
  unfold kvsOf
  rw [List.map_map]
  rfl
theorem kvs_len (ns : List Int) (g : Int → V) : (kvsOf ns g).length = ns.length := by
  unfold kvsOf
  rw [List.length_map]
theorem kvs_congr {ns : List Int} {g g' : Int → V} (h : ∀ n ∈ ns, g n = g' n) : kvsOf ns g = kvsOf ns g' := by
  unfold kvsOf
  exact List.map_congr_left fun n hn => by rw [h n hn]
theorem valV_kvs (g : Int → V) (k : Int) : ∀ ns : List Int, valV (kvsOf ns g) (Sum.inl k) = if k ∈ ns then some (g k) else none
  | [] => rfl
  | n :: ns => by
    show valV ((Sum.inl n, g n) :: kvsOf ns g) (Sum.inl k) = _
    by_cases e : n = k
    · subst e
      rw [valV_pos rfl, if_pos List.mem_cons_self]
    · rw [valV_neg (fun z => e (Sum.inl.inj z)), valV_kvs g k ns]
      by_cases m : k ∈ ns
      · rw [if_pos m, if_pos (List.mem_cons_of_mem _ m)]
      · rw [if_neg m, if_neg (fun z => by
          rcases List.mem_cons.mp z with z | z
          · exact e z.symm
          · exact m z)]
theorem any_kvs (g : Int → V) (k : Int) (ns : List Int) : ((kvsOf ns g).any fun kv => decide (kv.1 = Sum.inl k)) = decide (k ∈ ns) := by
  unfold kvsOf
  rw [List.any_map, Bool.eq_iff_iff, List.any_eq_true]
  constructor
  · rintro ⟨n, hn, e⟩
    have : n = k := by simpa using e
    subst this
    exact decide_eq_true hn
  · intro h
    exact ⟨k, of_decide_eq_true h, by simp⟩
theorem putK_kvs (g : Int → V) (k : Int) (v : V) (ns : List Int) : putK (kvsOf ns g) (Sum.inl k) v = kvsOf (if k ∈ ns then ns else ns ++ [k]) (fun n => if n = k then v else g n) := by
  unfold putK
  rw [any_kvs]
  by_cases m : k ∈ ns
  · rw [decide_eq_true m, if_pos rfl, if_pos m]
    unfold kvsOf
    rw [List.map_map]
    refine List.map_congr_left fun n hn => ?_
    show (if (Sum.inl n : Key) = Sum.inl k then ((Sum.inl n : Key), v) else (Sum.inl n, g n)) = (Sum.inl n, if n = k then v else g n)
    by_cases e : n = k
    · rw [if_pos (by rw [e]), if_pos e]
    · rw [if_neg (fun z => e (Sum.inl.inj z)), if_neg e]
  · rw [decide_eq_false m, if_neg Bool.false_ne_true, if_neg m]
    unfold kvsOf
    rw [List.map_append]
    congr 1
    · refine List.map_congr_left fun n hn => ?_
      have z : ¬ n = k := fun z => m (by rw [← z]; exact hn)
      show (Sum.inl n, g n) = (Sum.inl n, if n = k then v else g n)
      rw [if_neg z]
    · show [(Sum.inl k, v)] = [(Sum.inl k, if k = k then v else g k)]
      rw [if_pos rfl]
theorem dropK_kvs (g : Int → V) (k : Int) (ns : List Int) : dropK (kvsOf ns g) (Sum.inl k) = kvsOf (ns.filter fun n => decide (n ≠ k)) g := by
  unfold dropK kvsOf
  rw [List.filter_map]
  congr 1
  refine List.filter_congr fun n hn => ?_
  show decide ((Sum.inl n : Key) ≠ Sum.inl k) = decide (n ≠ k)
  rw [decide_eq_decide]
  exact ⟨fun h e => h (by rw [e]), fun h e => h (Sum.inl.inj e)⟩
theorem put_nodup {ns : List Int} (h : ns.Nodup) (k : Int) : (if k ∈ ns then ns else ns ++ [k]).Nodup := by
  split
  · exact h
  · rename_i m
    rw [List.nodup_append]
    exact ⟨h, by simp, fun a ha b hb => by
      have : b = k := by simpa using hb
      subst this
      exact fun e => m (e ▸ ha)⟩
theorem mem_put {ns : List Int} {k r : Int} : r ∈ (if k ∈ ns then ns else ns ++ [k]) ↔ r ∈ ns ∨ r = k := by
  split
  · rename_i m
    exact ⟨.inl, fun h => h.elim id fun e => e ▸ m⟩
  · simp
/-- two ascending lists without doubles of the same members are one -/
theorem asc_unique : ∀ {l m : List Int}, l.Pairwise (· < ·) → m.Pairwise (· < ·) → (∀ r, r ∈ l ↔ r ∈ m) → l = m
  | [], [], _, _, _ => rfl
  | [], y :: m, _, _, h => by
    have := (h y).mpr List.mem_cons_self
    cases this
  | x :: l, [], _, _, h => by
    have := (h x).mp List.mem_cons_self
    cases this
  | x :: l, y :: m, h1, h2, h => by
    obtain ⟨a1, a2⟩ := List.pairwise_cons.mp h1
    obtain ⟨b1, b2⟩ := List.pairwise_cons.mp h2
    have e : x = y := by
      rcases List.mem_cons.mp ((h x).mp List.mem_cons_self) with z | z
      · exact z
      · rcases List.mem_cons.mp ((h y).mpr List.mem_cons_self) with z' | z'
        · exact z'.symm
        · have := b1 x z
          have := a1 y z'
          omega
    subst e
    rw [asc_unique a2 b2 fun r => ?_]
    constructor
    · intro hr
      rcases List.mem_cons.mp ((h r).mp (List.mem_cons_of_mem _ hr)) with z | z
      · have := a1 r hr
        omega
      · exact z
    · intro hr
      rcases List.mem_cons.mp ((h r).mpr (List.mem_cons_of_mem _ hr)) with z | z
      · have := b1 r hr
        omega
      · exact z
theorem asc_of {ns ns' : List Int} (hp : ns'.Perm ns) (hs : ns'.Pairwise (· ≤ ·)) (hn : ns.Nodup) : ns'.Pairwise (· < ·) := by
  have hn' : ns'.Nodup := hp.nodup_iff.mpr hn
  exact (List.Pairwise.and hs hn').imp fun ⟨h1, h2⟩ => by omega
end My
namespace My
open PySem L2
/-- a dict comprehension over any walk -/
theorem dc_it {J : It} {n : Nat} {G : Hp → Prop} {Y : Nat → Hp → V → Hp → Prop} (w : Walk J n G Y) {g : TG} {tt : TT} {tk tv : TE} {vs : List Nat} {σ : L2.St} {H1 : Hp} {D : Addr} {Qd : Hp → Prop} (Pv : Nat → Hp → Prop) (h0 : Pv 0 (upd H1 D (.dK []))) (hG : ∀ i H, i ≤ n → Pv i H → G H)
    (hs : ∀ i x H H', i < n → Pv i H → Y i H x H' → g x (wipe σ vs) H' fun σ2 H2 => wipe σ2 vs = wipe σ vs ∧ tt σ2 H2 fun b H3 =>
      if b = true then tk σ2 H3 fun y H4 => tv σ2 H4 fun z H5 => ∃ kvs k, y = kV k ∧ H5 D = some (.dK kvs) ∧ kvs.length < sizeLine ∧ Pv (i + 1) (upd H5 D (.dK (putK kvs k z))) else Pv (i + 1) H3) (hd : ∀ H, Pv n H → Qd H) :
    ∃ W : Nat → Nat → Hp → Prop, (∃ m, W 0 m (upd H1 D (.dK []))) ∧ ∀ i m H, W i m H →
      (J.stop i H ∧ Qd H) ∨ (J.go i H ∧ ∃ Nx : Hp → Prop, (∀ H', Nx H' → ∃ m', m' < m ∧ W (i + 1) m' H') ∧ ∀ x H', J.yld i H x H' → g x (wipe σ vs) H' fun σ2 H2 => wipe σ2 vs = wipe σ vs ∧ tt σ2 H2 fun b H3 =>
        if b = true then tk σ2 H3 fun y H4 => tv σ2 H4 fun z H5 => ∃ kvs k, y = kV k ∧ H5 D = some (.dK kvs) ∧ kvs.length < sizeLine ∧ Nx (upd H5 D (.dK (putK kvs k z))) else Nx H3) := by
  refine ⟨fun i m H => m = n - i ∧ i ≤ n ∧ Pv i H, ⟨n, by simp, Nat.zero_le _, h0⟩, ?_⟩
  rintro i m H ⟨rfl, hi, p⟩
  have q := hG i H hi p
  by_cases hlt : i < n
  · exact .inr ⟨w.goes i H hlt q, Pv (i + 1), fun H' p' => ⟨n - (i + 1), by omega, rfl, hlt, p'⟩, fun x H' y => hs i x H H' hlt p (w.yields i H x H' hlt q y)⟩
  · have e : i = n := by omega
    subst e
    exact .inl ⟨w.stops H q, hd H p⟩
end My
namespace My
open PySem PySem.Spec PyProof.Rows L2
section
variable {X : Cx}
/-- x = {k: v for ..} -/
theorem ps_setDc {i : Nat} {y : Str} {py : Pos} {kx vx tg iter : Expr} {ifs : List Expr} {scope : Scope} {own : List (Str × Nat)} {pos spos : Pos} {wi : TI} {g : TG} {tt : TT} {tk tv : TE} (hc : X.calm = true) (hN : X.N.Nodup) (hy : X.N[i]? = some y) (hyl : X.env.scope.names.lookup y = some .local)
    (hsw : swapsWith (.DictComp kx vx [⟨tg, iter, ifs, 0⟩] scope pos) (some (.Name y py)) spos.line X.env = pure true) (hi : PI X tg iter wi) (ok : BlkOk X.N X.env.scope scope own)
    (hg : ∀ (s : Shared) (H : Hp) (C : Addr) (cl : List (Str × Addr)) (fp : List Addr), PG (X.blk s H scope (compEnvC scope cl C X.env) fp) tg g) (ht : ∀ (s : Shared) (H : Hp) (C : Addr) (cl : List (Str × Addr)) (fp : List Addr), PTs (X.blk s H scope (compEnvC scope cl C X.env) fp) ifs tt)
    (hk : ∀ (s : Shared) (H : Hp) (C : Addr) (cl : List (Str × Addr)) (fp : List Addr), PE (X.blk s H scope (compEnvC scope cl C X.env) fp) kx tk)
    (he : ∀ (s : Shared) (H : Hp) (C : Addr) (cl : List (Str × Addr)) (fp : List Addr), PE (X.blk s H scope (compEnvC scope cl C X.env) fp) vx tv) (hs : ∀ x, foldedSetIterable iter X.env x = pure x := by intro _; rfl) :
    PS X (.Assign [.Name y py] (.DictComp kx vx [⟨tg, iter, ifs, 0⟩] scope pos) spos) (tAsg (tDc wi g tt tk tv (own.map (·.2))) (gName i)) := by
  refine ⟨fun pins s σ H D I h => ?_⟩
  rw [exec_Assign_Name_used _ _ _ _ hsw]
  refine wpAny_bind (wpAny_standAt (wpAny_bind ?_))
  show wpAny _ X.A (do let _ ← comprehension (.DictComp kx vx [⟨tg, iter, ifs, 0⟩] scope pos) scope X.env (firstIterPos [⟨tg, iter, ifs, 0⟩] pos) newDict false (eval iter X.env) (some (assign (.Name y py) X.env))) _ _ s
  have h : tDc wi g tt tk tv (own.map (·.2)) σ H (fun x H1 => gName i x σ H1 D.nx) := h
  refine wpAny_bind (thn (dc_core (Qf := fun _ s' => SP X pins D .next s') hc hN I hi ok hg ht hk he hs h fun L C s' m H' I' q hn f => ?_) fun _ s' hq => wpAny_pure (wpAny_pure hq))
  show wpAny _ _ (assign (.Name y py) X.env (.ref L)) _ _ _
  refine wpAny_assign_Name (store_ok2 (v := V.ref L) I' hN hy (.inl hyl) rfl (fun s2 I2 ⟨a, sb, ha⟩ => ?_) (.inr hyl))
  obtain ⟨f0, f1, f2, f3, f4, f5⟩ := f
  have haC : C ≠ a := by
    rcases ha with z | z
    · rw [z]; exact f1
    · exact fun e => f4 y a z e.symm
  refine ⟨m, hn.sameBut sb haC, fun h3 sb3 => ?_⟩
  exact ⟨_, H', I2.turned (t' := s2.toks) (fun b o hb e => (sb3.2 b hb).trans e) f0 f1 f3 f4 f5, q⟩
theorem sw_trueD {kx vx : Expr} {gs : List Comprehension} {scope : Scope} {pos py : Pos} {y : Str} {l : Nat} {env : Env} (hk : env.scope.kind = .function) (hy : env.scope.names.lookup y = some .local) (hl : (py.line == pos.line) = true)
    (ha : (scope.names.any fun (n, k) => n == y && (k == .local || k == .cell)) = false) : swapsWith (.DictComp kx vx gs scope pos) (some (.Name y py)) l env = pure true := by
  have ky : env.kindOf y = some .local := hy
  have hb : env.blockKind = .function := by unfold Env.blockKind; rw [hk]; rfl
  unfold swapsWith
  simp only [hb, ky, ha, Expr.pos, hl]
  rfl
end
end My
namespace My
open PySem L2
theorem cut_mid (xs : List V) {n m : Nat} (h : m ≤ xs.length) : cutV xs (some (n : Int)) (some (m : Int)) = (xs.drop n).take (m - n) := by
  unfold cutV
  rw [HT.sIx_nat, HT.sIx_nat, Nat.min_eq_left h]
  by_cases h2 : n ≤ xs.length
  · rw [Nat.min_eq_left h2]
  · rw [Nat.min_eq_right (by omega), List.drop_eq_nil_of_le (Nat.le_refl _), List.drop_eq_nil_of_le (by omega), List.take_nil, List.take_nil]
theorem nodup_len : ∀ {l m : List Int}, l.Nodup → (∀ r ∈ l, r ∈ m) → l.length ≤ m.length
  | [], _, _, _ => Nat.zero_le _
  | x :: l, m, h, s => by
    obtain ⟨h1, h2⟩ := List.nodup_cons.mp h
    have hx := s x List.mem_cons_self
    have := nodup_len (m := m.erase x) h2 fun r hr => (List.mem_erase_of_ne (fun e : r = x => h1 (by rw [← e]; exact hr))).mpr (s r (List.mem_cons_of_mem _ hr))
    rw [List.length_erase_of_mem hx] at this
    have : 0 < m.length := List.length_pos_of_mem hx
    rw [List.length_cons]
    omega
/-- the keys of a dict of marks -/
structure FdOk (f : Int → Bool) (dom ks : List Int) : Prop where
  nd : ks.Nodup
  is : ∀ r, r ∈ ks ↔ f r = true
  dm : ∀ r ∈ ks, r ∈ dom
theorem FdOk.len {f : Int → Bool} {dom ks : List Int} (h : FdOk f dom ks) : ks.length ≤ dom.length := nodup_len h.nd h.dm
theorem FdOk.congr {f g : Int → Bool} {dom ks : List Int} (h : FdOk f dom ks) (e : ∀ r, f r = g r) : FdOk g dom ks := ⟨h.nd, fun r => by rw [h.is, e], h.dm⟩
theorem FdOk.put {f : Int → Bool} {dom ks : List Int} (h : FdOk f dom ks) {k : Int} (hk : k ∈ dom) : FdOk (fun r => if r = k then true else f r) dom (if k ∈ ks then ks else ks ++ [k]) :=
  ⟨put_nodup h.nd k, fun r => by
    rw [mem_put, h.is]
    by_cases e : r = k
    · simp [e]
    · simp [e], fun r hr => by
    rcases mem_put.mp hr with z | z
    · exact h.dm r z
    · exact z ▸ hk⟩
theorem FdOk.drop {f : Int → Bool} {dom ks : List Int} (h : FdOk f dom ks) (k : Int) : FdOk (fun r => if r = k then false else f r) dom (ks.filter fun n => decide (n ≠ k)) :=
  ⟨h.nd.sublist List.filter_sublist, fun r => by
    rw [List.mem_filter, h.is]
    by_cases e : r = k
    · simp [e]
    · simp [e], fun r hr => h.dm r (List.mem_filter.mp hr).1⟩
abbrev tt : Int → V := fun _ => .bl true
theorem putK_tt (k : Int) (ks : List Int) : putK (kvsOf ks tt) (Sum.inl k) (.bl true) = kvsOf (if k ∈ ks then ks else ks ++ [k]) tt := by
  rw [putK_kvs]
  exact kvs_congr fun n _ => by
    show (if n = k then V.bl true else .bl true) = .bl true
    split <;> rfl
theorem kvs_snoc (ks : List Int) (g : Int → V) (k : Int) (h : k ∉ ks) : putK (kvsOf ks g) (Sum.inl k) (g k) = kvsOf (ks ++ [k]) g := by
  rw [putK_kvs, if_neg h]
  exact kvs_congr fun n _ => by
    show (if n = k then g k else g n) = g n
    split
    · rename_i e
      rw [e]
    · rfl
theorem nodup_inj {ns : List Int} (h : ns.Nodup) {i j : Nat} (hi : i < ns.length) (hj : j < ns.length) (e : ns[i] = ns[j]) : i = j := by
  have hp := List.pairwise_iff_getElem.mp h
  rcases Nat.lt_trichotomy i j with z | z | z
  · exact absurd e (hp i j hi hj z)
  · exact z
  · exact absurd e.symm (hp j i hj hi z)
theorem nodup_take {ns : List Int} (h : ns.Nodup) (i : Nat) {x : Int} (hx : ns[i]? = some x) : x ∉ ns.take i := fun m => by
  obtain ⟨j, hj, e⟩ := List.getElem_of_mem m
  rw [List.length_take] at hj
  rw [List.getElem_take] at e
  obtain ⟨hi, e2⟩ := List.getElem?_eq_some_iff.mp hx
  have := nodup_inj h (i := j) (j := i) (by omega) hi (by rw [e, e2])
  omega
theorem idx_of {ns : List Int} (h : ns.Nodup) {i : Nat} {x : Int} (hx : ns[i]? = some x) : ns.idxOf x = i := by
  obtain ⟨hi, e2⟩ := List.getElem?_eq_some_iff.mp hx
  have hm : x ∈ ns := List.mem_of_getElem? hx
  have hlt := List.idxOf_lt_length_of_mem hm
  exact nodup_inj h (i := ns.idxOf x) (j := i) hlt hi (by rw [List.getElem_idxOf, e2])
theorem take_snoc {α : Type} {ns : List α} {i : Nat} {x : α} (hx : ns[i]? = some x) : ns.take (i + 1) = ns.take i ++ [x] := by
  rw [List.take_add_one, hx]
  rfl
theorem foldl_take {α β : Type} {f : β → α → β} {b : β} {cs : List α} {i : Nat} {c : α} (h : cs[i]? = some c) : (cs.take (i + 1)).foldl f b = f ((cs.take i).foldl f b) c := by
  rw [take_snoc h, List.foldl_append]
  rfl
theorem peBMK {X : Cx} {K : PySem.W.Frag} (h : X.K = K) {e : Expr} {T : String} {r : V → List V → Hp → VK → Prop} {to : TE} {t : TA} (p : PE X e (tBM X.K T r to t)) : PE X e (tBM K T r to t) := h ▸ p
theorem peBM0K {X : Cx} {K : PySem.W.Frag} (h : X.K = K) {e : Expr} {T : String} {r : V → List V → Hp → VK → Prop} {to : TE} (p : PE X e (tBM0 X.K T r to)) : PE X e (tBM0 K T r to) := h ▸ p
section
variable {X : Cx} {e : Expr} {te : L2.St → Hp → (Int → Int → Hp → Prop) → Prop}
def tCutR (te : L2.St → Hp → (Int → Int → Hp → Prop) → Prop) : L2.St → Hp → (Int → Int → Hp → Prop) → Prop := fun σ H Q => ∃ M : Int → Int → Hp → Prop, te σ H M ∧ ∀ a b H', M a b H' → Q a b H'
theorem prg_cut (h : PRg X e te) : PRg X e (tCutR te) := fun pins s σ H Q I ⟨M, hm, hq⟩ => thn (h pins s σ H M I hm) fun x s1 ⟨r, a, b, t, u, v, H', e1, e2, I1, q⟩ => ⟨r, a, b, t, u, v, H', e1, e2, I1, hq a b H' q⟩
def tLstRgG (te : L2.St → Hp → (Int → Int → Hp → Prop) → Prop) : TE := fun σ H Q => te σ H fun a b H1 => RgOk a b ∧ New (.lst (rgV a b)) H1 Q
/-- list(range(..)) -/
theorem pe_listRgG {p pos : Pos} (hc : X.calm = true) (hg : Gl X "list") (hm : X.mg "list" = none) (he : PRg X e te) (na : PySem.starEach [e] X.env = (false, PySem.eval e X.env) :: PySem.starEach [] X.env := by rfl) : PE X (.Call (.Name "list" p) [e] [] pos) (tLstRgG te) :=
  pe_weak (pe_listRg hc hg hm (prg_cut he) na) fun σ H Q q => ⟨_, q, fun _ _ _ z => ⟨z.1, fun p hp => z.2.go p hp⟩⟩
/-- the ints 0 .. n - 1 -/
def upN (n : Nat) : List Int := (List.range n).map fun i => ((i : Nat) : Int)
theorem rgV_upN (n : Nat) : rgV 0 (n : Int) = (upN n).map V.int := by
  unfold rgV upN
  rw [List.map_map]
  have e : ((n : Int) - 0).toNat = n := by omega
  rw [e]
  exact List.map_congr_left fun i _ => by
    show V.int (0 + (i : Int)) = V.int (i : Int)
    rw [Int.zero_add]
theorem upN_len (n : Nat) : (upN n).length = n := by
  unfold upN
  rw [List.length_map, List.length_range]
theorem upN_mem {n : Nat} {r : Int} (h : r ∈ upN n) : 0 ≤ r ∧ r < n := by
  unfold upN at h
  obtain ⟨i, hi, rfl⟩ := List.mem_map.mp h
  have := List.mem_range.mp hi
  omega
theorem upN_nodup (n : Nat) : (upN n).Nodup := by
  unfold upN
  show List.Pairwise _ _
  rw [List.pairwise_map]
  exact List.nodup_range.imp fun h => by omega
end
end My
set_option Elab.async false
set_option linter.all false
set_option maxRecDepth 100000
set_option maxHeartbeats 4000000
/-! repr: how long what is shown can be; repr of any data without dicts. -/
namespace My
open PySem PySem.Spec PyProof.Rows L2
/-- data that can be shown, no deeper than n, in at most M signs -/
structure Shw (d : PyData) (n M : Nat) : Prop where
  sh : d.showable = true
  nd : d.hasDict = false
  dp : d.depth ≤ n
  ln : d.shown.length ≤ M
theorem Shw.mono {d : PyData} {n m M L : Nat} (h : Shw d n M) (h1 : n ≤ m) (h2 : M ≤ L) : Shw d m L := ⟨h.sh, h.nd, Nat.le_trans h.dp h1, Nat.le_trans h.ln h2⟩
theorem log_of {i : Int} (h : i.natAbs < 2 ^ 1900) : i.natAbs.log2 < 1920 := by
  have := PySem.Flt.log2_lt_of (k := 1900) (by decide) h
  omega
theorem Shw.int {i : Int} (h : i.natAbs.log2 < 1920) : Shw (.int i) 0 1921 := ⟨decide_eq_true h, rfl, Nat.le_refl _, by
  show (Str.ofString (toString i)).length ≤ 1921
  rw [PySem.ofString_length]
  exact int_text_length_le (k := 1920) (by decide) h⟩
theorem Shw.none : Shw .none 0 4 := ⟨rfl, rfl, Nat.le_refl _, by decide⟩
theorem Shw.bool (b : Bool) : Shw (.bool b) 0 5 := ⟨rfl, rfl, Nat.le_refl _, by cases b <;> decide⟩
theorem textFrom_le : ∀ (ts : List Str) (k : Nat) (acc : Str), (textFrom k acc ts).length ≤ acc.length + piled ts
  | [], k, acc => by
    show acc.length ≤ acc.length + piled []
    omega
  | t :: r, k, acc => by
    have ih := textFrom_le r (k + 1) (acc ++ (if k > 0 then ", " else "" : String) ++ t)
    have l2 : (if k > 0 then 2 else 0) ≤ 2 := by split <;> omega
    have e : (acc ++ (if k > 0 then ", " else "" : String) ++ t).length = acc.length + (if k > 0 then 2 else 0) + t.length := by
      rw [Str.length_append, Str.length_append]
      split <;> rfl
    rw [e] at ih
    show (textFrom (k + 1) (acc ++ (if k > 0 then ", " else "" : String) ++ t) r).length ≤ _
    rw [piled_cons]
    omega
theorem piled_le {M : Nat} : ∀ ts : List Str, (∀ t ∈ ts, t.length ≤ M) → piled ts ≤ ts.length * (M + 2)
  | [], _ => Nat.zero_le _
  | t :: r, h => by
    have ih := piled_le r fun x hx => h x (List.mem_cons_of_mem _ hx)
    have := h t List.mem_cons_self
    rw [piled_cons, List.length_cons, Nat.succ_mul]
    omega
theorem all_of {n M : Nat} : ∀ {xs : List PyData}, (∀ x ∈ xs, Shw x n M) → PyData.showableAll xs = true ∧ PyData.hasDictAll xs = false ∧ PyData.depthAll xs ≤ n ∧ (PyData.shownAll xs).length = xs.length ∧ ∀ t ∈ PyData.shownAll xs, t.length ≤ M
  | [], _ => ⟨rfl, rfl, Nat.zero_le _, rfl, fun t ht => by cases ht⟩
  | x :: xs, h => by
    obtain ⟨h1, h2, h3, h4, h5⟩ := all_of (xs := xs) fun y hy => h y (List.mem_cons_of_mem _ hy)
    have hx := h x List.mem_cons_self
    refine ⟨?_, ?_, ?_, ?_, fun t ht => ?_⟩
    · show (PyData.showable x && PyData.showableAll xs) = true
      rw [hx.sh, h1]
      rfl
    · show (PyData.hasDict x || PyData.hasDictAll xs) = false
      rw [hx.nd, h2]
      rfl
    · exact Nat.max_le.mpr ⟨hx.dp, h3⟩
    · show (PyData.shownAll xs).length + 1 = xs.length + 1
      rw [h4]
    · rcases List.mem_cons.mp (show t ∈ PyData.shown x :: PyData.shownAll xs from ht) with z | z
      · rw [z]
        exact hx.ln
      · exact h5 t z
theorem Shw.list {n M : Nat} {xs : List PyData} (h : ∀ x ∈ xs, Shw x n M) : Shw (.list xs) (n + 1) (2 + xs.length * (M + 2)) := by
  obtain ⟨h1, h2, h3, h4, h5⟩ := all_of h
  refine ⟨h1, h2, by show PyData.depthAll xs + 1 ≤ n + 1; omega, ?_⟩
  show (textFrom 0 "[" (PyData.shownAll xs) ++ ("]" : Str)).length ≤ _
  have a := textFrom_le (PyData.shownAll xs) 0 "["
  have b := piled_le _ h5
  have e1 : ((("[" : String) : Str)).length = 1 := rfl
  have e2 : ((("]" : String) : Str)).length = 1 := rfl
  rw [Str.length_append, e2]
  rw [e1] at a
  rw [h4] at b
  omega
theorem Shw.tuple {n M : Nat} {xs : List PyData} (h : ∀ x ∈ xs, Shw x n M) : Shw (.tuple xs) (n + 1) (3 + xs.length * (M + 2)) := by
  obtain ⟨h1, h2, h3, h4, h5⟩ := all_of h
  refine ⟨h1, h2, by show PyData.depthAll xs + 1 ≤ n + 1; omega, ?_⟩
  show (tupleText (PyData.shownAll xs)).length ≤ _
  have b := piled_le _ h5
  unfold tupleText
  rw [Str.length_append, Str.length_append]
  have e1 : ((("(" : String) : Str)).length = 1 := rfl
  have e3 : (((if (PyData.shownAll xs).length == 1 then ",)" else ")" : String) : Str)).length ≤ 2 := by split <;> decide
  rw [e1]
  rw [h4] at b
  by_cases z : PyData.shownAll xs = []
  · rw [z] at e3 ⊢
    have : (Str.join ", " ([] : List Str)).length = 0 := rfl
    omega
  · have := join_length_add _ z
    omega
/-- ints within some bits -/
def Bd (b : Nat) (ns : List Int) : Prop := ∀ n ∈ ns, n.natAbs < 2 ^ b
theorem Shw.ints {b : Nat} {ns : List Int} (hb : b ≤ 1900) (h : Bd b ns) : Shw (eL PyData.int ns) 1 (2 + ns.length * 1923) := by
  have := Shw.list (n := 0) (M := 1921) (xs := ns.map PyData.int) fun x hx => by
    obtain ⟨n, hn, rfl⟩ := List.mem_map.mp hx
    exact Shw.int (log_of (Nat.lt_of_lt_of_le (h n hn) (Nat.pow_le_pow_right (by decide) hb)))
  rw [List.length_map] at this
  exact this
section
variable {X : Cx}
/-- repr of any data without dicts -/
def rReprA (K : PySem.W.Frag) : List V → Hp → VK → Prop := fun vs H Q => ∃ (v : V) (d : PyData), vs = [v] ∧ Dp K H v d ∧ Shw d 60 sizeLine ∧ Q (.str d.shown) H
theorem cr_reprA (gd : X.A.guards = some []) (hu : X.A.units + 64 < cLine) : CallR X (.builtin "repr") (rReprA X.K) := by
  intro pins s σ H vs us Q I r h
  obtain ⟨v, d, rfl, hd, sw, q⟩ := h
  obtain ⟨u, rfl, ru⟩ := vals1 r
  cases hd with
  | non =>
    cases ru
    exact PySem.P.repr_of_none ⟨.str _, H, I.tok _, ⟨_, rfl⟩, q⟩
  | bl b =>
    cases ru
    exact PySem.P.repr_of_bool ⟨.str _, H, I.tok _, ⟨_, rfl⟩, q⟩
  | int i =>
    obtain ⟨t, rfl⟩ := ru
    exact PySem.P.repr_of_int (of_decide_eq_true sw.sh) ⟨.str _, H, I.tok _, ⟨_, rfl⟩, q⟩
  | str x =>
    obtain ⟨t, rfl⟩ := ru
    exact PySem.P.repr_of_str ⟨.str _, H, I.tok _, ⟨_, rfl⟩, q⟩ sw.ln
  | lst h1 h2 => exact cr_repr gd hu pins s σ H _ _ Q I r ⟨_, _, rfl, .lst h1 h2, sw.sh, sw.nd, sw.dp, sw.ln, ⟨_, rfl⟩, q⟩
  | tup h1 h2 => exact cr_repr gd hu pins s σ H _ _ Q I r ⟨_, _, rfl, .tup h1 h2, sw.sh, sw.nd, sw.dp, sw.ln, ⟨_, rfl⟩, q⟩
end
end My
set_option Elab.async false
set_option linter.all false
set_option maxRecDepth 100000
set_option maxHeartbeats 4000000
/-! Own classes: len(o) by an own __len__, o == p and o != p by an own __eq__. -/
namespace My
open PySem PySem.Spec PyProof.Rows L2
section
variable {X : Cx} {CX : CXT} {n : Nat} {f C : Addr} {fd : FuncData} {ps : List Str} {sp : Sp} {E : XK}
/-- a def called with an around one deeper; what is raised does not leave -/
theorem run_in1 {pins : List (Addr × Obj)} {σ : L2.St} {H : Hp} {s : Shared} {Q : VK} {E' : Value → Shared → Prop} {us : List Value} {vs : List V} (F : FnOk X.prog X.w X.K X.mg X.base CX n f fd ps sp) (hr : Room (n + 1) X.A) (hb : Binds X.K fd ps []) (hx : Passes CX X.nox E)
    (I : Inv X pins σ H s) (r : Vals vs us) (h : sp vs H Q E) : wpAny (model X.prog X.w) X.A.in1 (call (.ref f) us) (EP X pins σ Q) E' s := by
  have hl : us.length = ps.length := by rw [← r.length]; exact F.len _ _ _ _ h
  have hb' := hb s us I.kIn (by rw [List.append_nil]; exact hl)
  rw [List.append_nil] at hb'
  refine wpAny_call (codeAny_mono (F.run X.A.in1 X.stack s H ⟨us, []⟩ us vs Q E hr.in1 I.env0.in1 hb' r h) fun r s' hq => ?_)
  cases r with
  | error er => exact False.elim (hx pins σ H s er s' (I.wish _) hq)
  | ok fl =>
    cases fl with
    | ret u => exact I.after hq
    | next => exact False.elim hq
    | brk => exact False.elim hq
    | cont => exact False.elim hq
def rLenO (C : Addr) (sp : Sp) (E : XK) : List V → Hp → VK → Prop := fun vs H Q => ∃ a dx fs, vs = [V.ref a] ∧ H a = some (.ins C dx fs) ∧ sp [.ref a] H (fun v H' => ∃ m : Int, v = .int m ∧ 0 ≤ m ∧ m < 2 ^ 63 ∧ Q (.int m) H') E
theorem cr_lenO (F : FnOk X.prog X.w X.K X.mg X.base CX n f fd ps sp) (hr : Room (n + 1) X.A) (hs : PySem.W.findIn X.K (.ref C) "__len__" = some (some (.ref f))) (hf : PySem.W.isFn X.K (.ref f) = true) (hb : Binds X.K fd ps []) (hx : Passes CX X.nox E) : CallR X (.builtin "len") (rLenO C sp E) := by
  intro pins s σ H vs us Q I r h
  obtain ⟨a, dx, fs, rfl, ha, h⟩ := h
  rw [Vals.ref1 r]
  obtain ⟨mA, J, _⟩ := ins_get I.hok ha
  obtain ⟨od, J, _⟩ := J.look
  obtain ⟨m, hF⟩ := I.fr
  refine PySem.W.len_K hF I.ok.mod.kin J hs hf (wpAny_mono (run_in1 (vs := [V.ref a]) F hr hb hx I (.cons rfl .nil) h) (fun u s' z => ?_) fun _ _ e => e)
  obtain ⟨v, H', I', rv, m, rfl, m0, m1, q⟩ := z
  obtain ⟨t, rfl⟩ := rv
  exact ⟨⟨m0, m1⟩, .int m, H', I'.tok _, ⟨_, rfl⟩, q⟩
def rEqO (C : Addr) (sp : Sp) (E : XK) : R2 := fun x y H Q => ∃ a b dx fs dy gs, x = .ref a ∧ y = .ref b ∧ H a = some (.ins C dx fs) ∧ H b = some (.ins C dy gs) ∧ sp [.ref a, .ref b] H (fun v H' => ∃ r : Bool, v = .bl r ∧ Q (.bl r) H') E
def rNeO (C : Addr) (sp : Sp) (E : XK) : R2 := fun x y H Q => ∃ a b dx fs dy gs, x = .ref a ∧ y = .ref b ∧ H a = some (.ins C dx fs) ∧ H b = some (.ins C dy gs) ∧ sp [.ref a, .ref b] H (fun v H' => ∃ r : Bool, v = .bl r ∧ Q (.bl (!r)) H') E
theorem run_here {pins : List (Addr × Obj)} {σ : L2.St} {H : Hp} {s : Shared} {Q : VK} {us : List Value} {vs : List V} (F : FnOk X.prog X.w X.K X.mg X.base CX n f fd ps sp) (hr : Room n X.A) (hb : Binds X.K fd ps []) (hx : Passes CX X E)
    (I : Inv X pins σ H s) (r : Vals vs us) (h : sp vs H Q E) : wpAny (model X.prog X.w) X.A (call (.ref f) us) (EP X pins σ Q) X.xe s := by
  have hl : us.length = ps.length := by rw [← r.length]; exact F.len _ _ _ _ h
  have hb' := hb s us I.kIn (by rw [List.append_nil]; exact hl)
  rw [List.append_nil] at hb'
  refine wpAny_call (codeAny_mono (F.run X.A X.stack s H ⟨us, []⟩ us vs Q E hr I.env0 hb' r h) fun r s' hq => ?_)
  cases r with
  | error er => exact hx pins σ H s er s' I hq
  | ok fl =>
    cases fl with
    | ret u => exact I.after hq
    | next => exact False.elim hq
    | brk => exact False.elim hq
    | cont => exact False.elim hq
theorem op_eqO (F : FnOk X.prog X.w X.K X.mg X.base CX n f fd ps sp) (hr : Room n X.A) (hs : PySem.W.findIn X.K (.ref C) "__eq__" = some (some (.ref f))) (hf : PySem.W.isFn X.K (.ref f) = true) (hb : Binds X.K fd ps []) (hx : Passes CX X E) : OpR X (compareOp .Eq) (rEqO C sp E) := by
  intro pins s σ H x y v u Q I rx ry h
  obtain ⟨a, b, dx, fs, dy, gs, rfl, rfl, ha, hb', h⟩ := h
  cases rx
  cases ry
  obtain ⟨mA, J, _⟩ := ins_get I.hok ha
  obtain ⟨mB, J', _⟩ := ins_get I.hok hb'
  obtain ⟨od, J, _⟩ := J.look
  obtain ⟨od', J', _⟩ := J'.look
  obtain ⟨m, hF⟩ := I.fr
  show wpAny (model X.prog X.w) X.A (richCompare .Eq (.ref a) (.ref b)) (EP X pins σ Q) X.xe s
  refine PySem.W.cmp_K (op := .Eq) (tb := .ref C) hr.units0 hF I.ok.mod.kin J J'.type (by simp [PySem.W.notFirst]) hs hf ?_
  refine wpAny_mono (run_here (vs := [V.ref a, V.ref b]) F hr hb hx I (.cons rfl (.cons rfl .nil)) h) (fun u s' z => ?_) fun _ _ e => e
  obtain ⟨v, H', I', rv, r, rfl, q⟩ := z
  cases rv
  exact ⟨.bl r, H', I', rfl, q⟩
theorem ifBound_objNe {M : Model} {A : Around} {E : Value → Shared → Prop} {s : Shared} {K : PySem.W.Frag} {x C : Addr} {ox : Obj} {od : Option Obj} {args : List Value} {Q : Option Value → Shared → Prop} (KX : K.In s.heap) (I : PySem.W.InstAt s.heap x ox C od) (hs : PySem.W.findIn K (.ref C) "__ne__" = some (some (.builtin "object.__ne__")))
    (h : wpAny M A (call (.builtin "object.__ne__") (.ref x :: args)) (fun v => Q (some v)) E s) : wpAny M A (callSpecialIfBound? (.ref x) "__ne__" args) Q E s := by
  simp only [callSpecialIfBound?, bindSpecialIfBound?]
  refine wpAny_holding (wpAny_bind (wpAny_bind (wpAny_bind (I.type.here ((PySem.W.looks_findIn KX hs).here ?_)))))
  refine wpAny_bind (wpAny_askSetting (wpAny_ite ?_))
  have fin : wpAny M A (call (.builtin "object.__ne__") ([.ref x] ++ args) >>= fun v => pure (some v)) Q E s := wpAny_bind (wpAny_mono h (fun v s' h' => wpAny_pure h') fun _ _ h' => h')
  split
  · exact wpAny_bind (wpAny_of_eq (F.cmp_object.ne.bind _) (wpAny_pure (by exact fin)))
  · exact wpAny_tryCatch (wpAny_bind (wpAny_of_eq (F.cmp_object.ne.bind _) (wpAny_pure (by exact fin))))
theorem op_neO (F : FnOk X.prog X.w X.K X.mg X.base CX n f fd ps sp) (hr : Room (n + 1) X.A) (hs : PySem.W.findIn X.K (.ref C) "__eq__" = some (some (.ref f))) (hn : PySem.W.findIn X.K (.ref C) "__ne__" = some (some (.builtin "object.__ne__"))) (hm : PySem.W.mroIn X.K C (.type "object") = some true) (hf : PySem.W.isFn X.K (.ref f) = true) (hb : Binds X.K fd ps []) (hx : Passes CX X.nox E) : OpR X (compareOp .NotEq) (rNeO C sp E) := by
  intro pins s σ H x y v u Q I rx ry h
  obtain ⟨a, b, dx, fs, dy, gs, rfl, rfl, ha, hb', h⟩ := h
  cases rx
  cases ry
  obtain ⟨mA, J, _⟩ := ins_get I.hok ha
  obtain ⟨mB, J', _⟩ := ins_get I.hok hb'
  obtain ⟨od, J, _⟩ := J.look
  obtain ⟨od', J', _⟩ := J'.look
  have KX := I.kIn
  show wpAny (model X.prog X.w) X.A (richCompare .NotEq (.ref a) (.ref b)) (EP X pins σ Q) X.xe s
  have one : wpAny (model X.prog X.w) X.A (tryCompare (.ref a) "__ne__" (.ref b)) (fun r s' => ∃ v, r = some v ∧ EP X pins σ Q v s') X.xe s := by
    unfold tryCompare
    refine wpAny_bind (ifBound_objNe KX J hn ?_)
    refine wpAny_call (codeAny_call_builtin PySem.F.cmp_object.ne.plain PySem.F.cmpEntry_ne (PySem.W.check_slot PySem.F.cmpKind_ne PySem.F.cmpSplit_ne (J.type.andThen (PySem.W.looks_mroIn KX hm)) (PySem.F.cmpArgs_ne _ _) ?_))
    unfold Builtin.«object.__ne__»
    refine wpAny_bind (wpAny_pure ?_)
    refine wpAny_bind (wpAny_cRoomFor (hr.in1).units0 ?_)
    refine wpAny_bind (m := callSpecialIfBound? (.ref a) (Str.ofString "__eq__") _) (PySem.W.ifBound_K KX J hs hf (wpAny_mono (run_in1 (vs := [V.ref a, V.ref b]) F hr hb hx I (.cons rfl (.cons rfl .nil)) h) (fun u s' z => ?_) fun _ _ e => e))
    obtain ⟨v, H', I', rv, r, rfl, q⟩ := z
    cases rv
    show wpAny _ X.A.in1 (truthy (.bool r) >>= _) _ _ s'
    refine wpAny_bind (wpAny_truthy_bool ?_)
    refine wpAny_pure ?_
    show wpAny _ X.A _ _ _ s'
    exact wpAny_pure ⟨_, rfl, .bl (!r), H', I', rfl, q⟩
  unfold richCompare
  simp only [oneThing_ref]
  refine wpAny_holding (wpAny_bind (wpAny_cRoomFor hr.units0 ?_))
  refine wpAny_bind (J.type.here (wpAny_bind (J'.type.here ?_)))
  split
  · rename_i q
    simp at q
  · refine wpAny_bind (wpAny_pure ?_)
    simp only [Bool.false_eq_true, if_false]
    refine wpAny_bind (wpAny_mono one (fun r s' z => ?_) fun _ _ e => e)
    obtain ⟨v, rfl, hq⟩ := z
    exact wpAny_pure hq
theorem pe_fldK {K : PySem.W.Frag} (h : X.K = K) {e : Expr} {g : Str} {ta : TE} (p : PE X e (tFld X.K ta g)) : PE X e (tFld K ta g) := h ▸ p
/-- tuple(x): of a list a new one, of a tuple itself -/
def rTupleA (K : PySem.W.Frag) : List V → Hp → VK → Prop := fun xs H Q => ∃ p ys, xs = [V.ref p] ∧ ((SqL K H p ys ∧ New (.tup ys) H Q) ∨ (SqT K H p ys ∧ Q (.ref p) H))
theorem call_tupleA : CallR X (.type "tuple") (rTupleA X.K) := fun pins s σ H xs us Q I r ⟨p, ys, h1, h2⟩ => call_tuple_of pins s σ H xs us Q I r ⟨p, ys, h1, h2.imp (fun z => ⟨z.1, fun l hl => z.2.go l hl⟩) id⟩
end
end My
set_option Elab.async false
set_option linter.all false
set_option maxRecDepth 100000
set_option maxHeartbeats 4000000
/-! sorted(xs) of any alike data (tuples, lists, texts, ints, nested), as a rule of the hand layer. -/
namespace My
open PySem PySem.Spec PyProof.Rows L2
open PySem.W (EachIs AllAlike Sortable dataKind sortVals KeyedOut dataLe)
/-- the values sorted by their data -/
def zsort (xs : List V) (ds : List PyData) : List V := ((xs.zip ds).mergeSort (dataLe false (·.2))).map (·.1)
def dsort (ds : List PyData) : List PyData := ds.mergeSort (dataLe false fun d => d)
theorem zsort_len {xs : List V} {ds : List PyData} (h : xs.length = ds.length) : (zsort xs ds).length = xs.length := by
  unfold zsort
  rw [List.length_map, List.length_mergeSort, List.length_zip, h, Nat.min_self]
theorem each_reads {h : Heap} : ∀ {vs : List Value} {ds : List PyData} {as : List Addr}, ReadsAll h vs ds as → EachIs (fun v d => ∃ as, Reads h v d as) vs ds
  | _, _, _, .nil => .nil
  | _, _, _, .cons h t => .cons ⟨_, h⟩ (each_reads t)
theorem each_vals : ∀ {us : List Value} {ps : List (V × PyData)}, EachIs (fun (u : Value) (p : V × PyData) => RelV p.1 u) us ps → Vals (ps.map (·.1)) us
  | _, _, .nil => .nil
  | _, _, .cons h t => .cons h (each_vals t)
theorem each_zip : ∀ {xs : List V} {us : List Value} {ds : List PyData}, Vals xs us → xs.length = ds.length → EachIs (fun (u : Value) (p : V × PyData) => RelV p.1 u) us (xs.zip ds)
  | _, _, [], .nil, _ => .nil
  | _, _, _ :: _, .nil, h => by cases h
  | _, _, [], .cons _ _, h => by cases h
  | _, _, _ :: _, .cons h t, e => .cons h (each_zip t (by simpa using e))
theorem dpLen {K : PySem.W.Frag} {H : Hp} : ∀ {xs : List V} {ds : List PyData}, DpAll K H xs ds → xs.length = ds.length
  | _, _, .nil => rfl
  | _, _, .cons _ t => by simp [dpLen t]
section
variable {X : Cx}
def rSortedA (K : PySem.W.Frag) : List V → Hp → VK → Prop := fun vs H Q => ∃ (a : Addr) (xs : List V) (ds : List PyData), vs = [V.ref a] ∧ SqL K H a xs ∧ DpAll K H xs ds ∧ AllAlike ds ∧ Sortable ds ∧ (∀ d ∈ ds, d.depth ≤ 60) ∧ New (.lst (zsort xs ds)) H Q
theorem cr_sortedA (hu : X.A.units + 64 < cLine) : CallR X (.builtin "sorted") (rSortedA X.K) := by
  intro pins s σ H vs us Q I r h
  obtain ⟨a, xs, ds, rfl, hs, hd, hal, hso, hdep, q⟩ := h
  obtain ⟨its, rv, hl, hz⟩ := I.list hs
  rw [Vals.ref1 r]
  obtain ⟨as, hr⟩ := Dp.readsAll I ds xs its hd rv
  have hlen := dpLen hd
  have e0 := each_reads hr
  have e1 : EachIs (fun v d => ∃ as, Reads (PySem.W.sortingHeap (PySem.W.copyHeap s.heap its) (s.heap.objs.size + 1) its) v d as) its ds := e0.mono fun v d ⟨as, z⟩ => ⟨as, Reads.keeps (fun b o e => PySem.W.sorting_copy_old e) z⟩
  refine PySem.W.sorted_vals (κ := dataKind (PySem.W.sortingHeap (PySem.W.copyHeap s.heap its) (s.heap.objs.size + 1) its) ds) hl.isList (PySem.W.SortsAt.data (s := { s with heap := PySem.W.sortingHeap (PySem.W.copyHeap s.heap its) (s.heap.objs.size + 1) its }) e1 hal hso fun d m => ?_) (by rw [← rv.length]; exact hz) ?_
  · show X.A.units + 1 + 1 + d.depth < cLine
    have := hdep d m
    omega
  · have ez : (xs.zip ds).map (·.2) = ds := by
      rw [← List.zip_unzip (xs.zip ds)]
      simp [List.map_snd_zip, hlen]
    have ko : KeyedOut false ((xs.zip ds).map (·.2)) its (sortVals (dataKind (PySem.W.sortingHeap (PySem.W.copyHeap s.heap its) (s.heap.objs.size + 1) its) ds) false its its) := by
      rw [ez]
      exact ⟨_, its, hal, rfl, e1⟩
    have ev := each_vals (PySem.W.keyedOut_each (·.2) ko (each_zip rv hlen))
    obtain ⟨n, hn⟩ := sortedAll_at s.heap its (sortVals (dataKind (PySem.W.sortingHeap (PySem.W.copyHeap s.heap its) (s.heap.objs.size + 1) its) ds) false its its).toArray
    refine ⟨.ref _, upd H _ (.lst (zsort xs ds)), I.laid (t' := s.toks) (fun b o e => sortedAll_old e) (Nat.le_succ _) ⟨?_, _, n, ev, hn⟩, rfl, q.go _ (I.hok.fresh (Nat.le_succ _))⟩
    rw [zsort_len hlen]
    exact hz
/-- xs[::-1] -/
def tRevG (K : PySem.W.Frag) (te : TE) : TE := fun σ H Q => te σ H fun x H1 => ∃ a xs, x = .ref a ∧ SqL K H1 a xs ∧ New (.lst xs.reverse) H1 Q
theorem pe_revG {e : Expr} {te : TE} {k : Nat} {p1 p2 p3 pos : Pos} (he : PE X e te) : PE X (.Subscript e (.Slice none none (some (.UnaryOp .USub (.Constant (.int 1) k p1) p2)) p3) pos) (tRevG X.K te) :=
  pe_weak (pe_revL (pe_cut he)) fun σ H Q q => ⟨_, q, fun _ _ ⟨a, xs, h1, h2, h3⟩ => ⟨a, xs, h1, h2, fun p hp => h3.go p hp⟩⟩
theorem pe_revK {K : PySem.W.Frag} (h : X.K = K) {e : Expr} {te : TE} {k : Nat} {p1 p2 p3 pos : Pos} (he : PE X e te) : PE X (.Subscript e (.Slice none none (some (.UnaryOp .USub (.Constant (.int 1) k p1) p2)) p3) pos) (tRevG K te) := h ▸ pe_revG he
end
end My
set_option Elab.async false
set_option linter.all false
set_option maxRecDepth 100000
set_option maxHeartbeats 4000000
/-! Lists of objects, pair by pair; comprehensions that make objects; sorting of objects by their data. -/
namespace My
open PySem PySem.Spec PyProof.Rows L2
open PySem.W (AllAlike Sortable dataLe)
def AllR {α : Type} (R : V → α → Prop) (vs : List V) (xs : List α) : Prop := vs.length = xs.length ∧ ∀ (i : Nat) v x, vs[i]? = some v → xs[i]? = some x → R v x
section
variable {α β : Type} {R S : V → α → Prop} {vs us : List V} {xs ys : List α}
theorem AllR.nil : AllR R [] [] := ⟨rfl, fun i v x h => by cases h⟩
theorem AllR.mono (h : AllR R vs xs) (k : ∀ v x, R v x → S v x) : AllR S vs xs := ⟨h.1, fun i v x h1 h2 => k v x (h.2 i v x h1 h2)⟩
theorem AllR.get (h : AllR R vs xs) {i : Nat} {v : V} (hi : vs[i]? = some v) : ∃ x, xs[i]? = some x ∧ R v x := by
  have hlt : i < vs.length := (List.getElem?_eq_some_iff.mp hi).1
  have hr : xs[i]? = some (xs[i]'(by rw [← h.1]; exact hlt)) := List.getElem?_eq_getElem _
  exact ⟨_, hr, h.2 i v _ hi hr⟩
theorem AllR.row (h : AllR R vs xs) {i : Nat} {x : α} (hi : xs[i]? = some x) : ∃ v, vs[i]? = some v ∧ R v x := by
  have hlt : i < xs.length := (List.getElem?_eq_some_iff.mp hi).1
  have hr : vs[i]? = some (vs[i]'(by rw [h.1]; exact hlt)) := List.getElem?_eq_getElem _
  exact ⟨_, hr, h.2 i _ x hr hi⟩
theorem AllR.append (h : AllR R vs xs) (k : AllR R us ys) : AllR R (vs ++ us) (xs ++ ys) := by
  refine ⟨by simp [h.1, k.1], fun i v x h1 h2 => ?_⟩
  by_cases z : i < vs.length
  · rw [List.getElem?_append_left z] at h1
    rw [List.getElem?_append_left (by rw [← h.1]; exact z)] at h2
    exact h.2 i v x h1 h2
  · rw [List.getElem?_append_right (by omega)] at h1
    rw [List.getElem?_append_right (by rw [← h.1]; omega), ← h.1] at h2
    exact k.2 _ v x h1 h2
theorem AllR.one {v : V} {x : α} (h : R v x) : AllR R [v] [x] := ⟨rfl, fun i u y h1 h2 => by
  cases i with
  | zero =>
    cases h1
    cases h2
    exact h
  | succ n => cases h1⟩
theorem AllR.snoc (h : AllR R vs xs) {v : V} {x : α} (k : R v x) : AllR R (vs ++ [v]) (xs ++ [x]) := h.append (AllR.one k)
theorem AllR.take (h : AllR R vs xs) (n : Nat) : AllR R (vs.take n) (xs.take n) := by
  refine ⟨by simp [h.1], fun i v d h1 h2 => ?_⟩
  rw [List.getElem?_take] at h1 h2
  split at h1
  · rename_i z
    rw [if_pos z] at h2
    exact h.2 i v d h1 h2
  · cases h1
theorem AllR.dp {K : PySem.W.Frag} {H : Hp} {e : α → PyData} : ∀ {vs : List V} {xs : List α}, AllR R vs xs → (∀ v x, R v x → Dp K H v (e x)) → DpAll K H vs (xs.map e)
  | [], [], _, _ => .nil
  | [], _ :: _, h, _ => by cases h.1
  | _ :: _, [], h, _ => by cases h.1
  | v :: vs, x :: xs, h, k => .cons (k v x (h.2 0 v x rfl rfl)) (AllR.dp ⟨by simpa using h.1, fun i u y h1 h2 => h.2 (i + 1) u y h1 h2⟩ k)
/-- sorted objects, by the data of them -/
theorem AllR.sort (key : α → PyData) (h : AllR R vs xs) : AllR R (zsort vs (xs.map key)) (xs.mergeSort (dataLe false key)) := by
  have e1 : zsort vs (xs.map key) = ((vs.zip xs).mergeSort (fun p q => dataLe false key p.2 q.2)).map (·.1) := by
    unfold zsort
    have e : vs.zip (xs.map key) = (vs.zip xs).map (fun p => (p.1, key p.2)) := by
      rw [List.zip_map_right]
      rfl
    rw [e, ← List.map_mergeSort (r := fun p q => dataLe false key p.2 q.2) (fun _ _ _ _ => rfl), List.map_map]
    rfl
  have e2 : xs.mergeSort (dataLe false key) = ((vs.zip xs).mergeSort (fun p q => dataLe false key p.2 q.2)).map (·.2) := by
    rw [List.map_mergeSort (s := dataLe false key) (fun _ _ _ _ => rfl), List.map_snd_zip]
    rw [h.1]
    exact Nat.le_refl _
  rw [e1, e2]
  have hp := List.mergeSort_perm (vs.zip xs) (fun p q => dataLe false key p.2 q.2)
  generalize (vs.zip xs).mergeSort (fun p q => dataLe false key p.2 q.2) = Z at hp
  refine ⟨by simp, fun i v x h1 h2 => ?_⟩
  rw [List.getElem?_map] at h1 h2
  cases z : Z[i]? with
  | none => rw [z] at h1; cases h1
  | some p =>
    rw [z] at h1 h2
    cases h1
    cases h2
    have hm : p ∈ vs.zip xs := hp.mem_iff.mp (List.mem_of_getElem? z)
    obtain ⟨k, hk⟩ := List.getElem?_of_mem hm
    rw [List.getElem?_zip_eq_some] at hk
    exact h.2 k _ _ hk.1 hk.2
theorem none_of {H H' : Hp} {p : Addr} (e : Ex H H') (h : H' p = none) : H p = none := by
  cases z : H p with
  | none => rfl
  | some o => rw [e _ _ z] at h; cases h
theorem ne_some {H H' : Hp} {p D : Addr} (e : Ex H H') (h : H' p = none) (hD : H D ≠ none) : p ≠ D := fun z => hD (none_of e (z ▸ h))
/-- a comprehension without tests over a list, each element an object (or any value) that R tells -/
theorem lc_objL {K : PySem.W.Frag} {a : Addr} {xs : List V} {ys : List α} {R : Hp → V → α → Prop} {g : TG} {te : TE} {vs : List Nat} {σ : L2.St} {H1 : Hp} {D : Addr} {Qd : Hp → Prop} (hx : SqL K H1 a xs) (hD : H1 D = none) (hl : ys.length = xs.length) (hz : xs.length ≤ sizeLine)
    (st : ∀ H' H'' v y, R H' v y → Exj D H' H'' → R H'' v y)
    (he : ∀ (i : Nat) x y H', Ex H1 H' → H' D ≠ none → xs[i]? = some x → ys[i]? = some y → ∀ (N : VK) (Z : Hp → Prop), (∀ v H2, Ex H' H2 → R H2 v y → N v H2) → g x (wipe σ vs) H' fun σ2 H2 => wipe σ2 vs = wipe σ vs ∧ tYes σ2 H2 fun b H3 => if b = true then te σ2 H3 N else Z H3)
    (k : ∀ H' us, Ex H1 H' → H' D = some (.lst us) → AllR (R H') us ys → Qd H') :
    ∃ W : Nat → Nat → Hp → Prop, (∃ m, W 0 m (upd H1 D (.lst []))) ∧ ∀ i m H, W i m H →
      ((Itl K a).stop i H ∧ Qd H) ∨ ((Itl K a).go i H ∧ ∃ Nx : Hp → Prop, (∀ H', Nx H' → ∃ m', m' < m ∧ W (i + 1) m' H') ∧ ∀ x H', (Itl K a).yld i H x H' → g x (wipe σ vs) H' fun σ2 H2 => wipe σ2 vs = wipe σ vs ∧ tYes σ2 H2 fun b H3 =>
        if b = true then te σ2 H3 fun y H4 => ∃ acc, H4 D = some (.lst acc) ∧ acc.length < sizeLine ∧ Nx (upd H4 D (.lst (acc ++ [y]))) else Nx H3) := by
  refine lc_it (walk_list (K := K) (a := a) (xs := xs)) (fun i H' => ∃ us, Ex H1 H' ∧ H' D = some (.lst us) ∧ us.length = i ∧ AllR (R H') us (ys.take i)) ⟨[], Evl.Ex.new hD, upd_same, rfl, AllR.nil⟩ (fun i H' _ ⟨_, e, _⟩ => Evl.ex_l e hx) ?_ ?_
  · rintro i x H' H3 hi ⟨us, e', d', l', a'⟩ ⟨rfl, hv⟩
    have hy : ys[i]? = some (ys[i]'(by omega)) := List.getElem?_eq_getElem (by omega)
    refine he i x _ H3 e' (fun z => by rw [d'] at z; cases z) hv hy _ _ fun v H2 e2 r2 => ⟨us, e2 _ _ d', by omega, us ++ [v], Evl.Ex.mut (e'.trans e2) hD, upd_same, by simp [l'], ?_⟩
    rw [List.take_add_one, hy]
    have y1 : Exj D H2 (upd H2 D (.lst (us ++ [v]))) := (Exj.refl _ _).upd
    exact AllR.snoc (a'.mono fun u y r => st _ _ u y (st _ _ u y r (Exj.of e2)) y1) (st _ _ _ _ r2 y1)
  · rintro H' ⟨us, e', d', l', a'⟩
    rw [List.take_of_length_le (by omega)] at a'
    exact k H' us e' d' a'
end
end My
set_option Elab.async false
set_option linter.all false
set_option maxRecDepth 100000
set_option maxHeartbeats 4000000
/-! set(xs) of a list of ints as a set whose order is known; sorted(set(xs)); x in xs of nested data; a + b of own objects. -/
namespace My
open PySem PySem.Spec PyProof.Rows L2 PySem.SeqAt
abbrev nset (w : World) : Obj := { cls := .type "set", dict := none, data := .set #[] 0 (.fresh 0 0 (!w.params.followText "set-order")) }
section
variable {P : Program} {w : World} {A : Around} {E : Value → Shared → Prop} {s : Shared}
theorem call_set_lst {l : Addr} {xs : Array Value} (ns : List Int) {Q : Value → Shared → Prop} (hd : A.handled = none) (ha : s.heap.IsList l xs) (hi : IntsAre xs.toList ns) (hz : ns.length + 1 < scanBound)
    (k : ∀ (h1 : Heap) (tk c : Nat), SetR w h1 s.heap.objs.size (fun j => decide (j ∈ ns)) c → c ≤ ns.length → (∀ b o, s.heap.get? b = some o → h1.get? b = some o) → Q (.ref s.heap.objs.size) { s with heap := h1, toks := tk }) :
    wpAny (model P w) A (call (.type "set") [.ref l]) Q E s := by
  have nl : xs.size = ns.length := (Array.length_toList (xs := xs)).symm.trans hi.length
  obtain ⟨mc, ml, m0⟩ := F.called_set.mro; have m1 := F.called_set.made; have m2 := F.called_set.sub
  refine wpAny_call (codeAny_of_tree (show wpAny _ _ (callAny (.type "set") _) _ _ _ from wpAny_pure ⟨Code.quiet_builtin _ (by decide +kernel), codeAny_builtin F.entry_type_call ?_⟩))
  rw [Around.under_plain (weight_type_call_type "set" [.ref l] []) (by rfl)]
  have m3 := F.called_set.notType; have m4 := F.called_set.canCreate; have m5 := F.typeCall_set_1 (.ref l)
  repeat (any_goals (first | assumption | wp_step))
  refine codeAny_mono (code_set_led1 (.ref l) (E := E) (Q₁ := fun o s1 => o = .ref s.heap.objs.size ∧ s1 = { s with heap := s.heap.push (nset w) }) ⟨rfl, rfl⟩) fun r s1 hr => ?_
  rcases r with e | fl
  · exact hr
  rcases fl with _ | _ | _ | ob
  all_goals first | exact hr.elim | skip
  obtain ⟨rfl, rfl⟩ := hr
  have gS : (s.heap.push (nset w)).get? s.heap.objs.size = some (nset w) := Heap.get?_push_size _ rfl
  have tS : Shared.TypeIs { s with heap := s.heap.push (nset w) } (.ref s.heap.objs.size) "set" := ⟨_, gS, rfl⟩
  have m6 := F.called_set.init.lookup; have m7 := F.called_set.init.bind (.ref s.heap.objs.size)
  repeat (any_goals (first | assumption | wp_step))
  refine codeAny_mono (codeAny_call_builtin (R := wants (fun r s2 => r = .none ∧ ∃ h1 tk c, s2 = { s with heap := h1, toks := tk } ∧ SetR w h1 s.heap.objs.size (fun j => decide (j ∈ ns)) c ∧ c ≤ ns.length ∧ ∀ b o, s.heap.get? b = some o → h1.get? b = some o) E) F.called_set.init.plain F.entry_set_init (check_set_init_1 tS ?_)) fun r2 s2 hr2 => ?_
  · obtain ⟨⟨oc, od, ot, os⟩, ho, c1, m, c2⟩ := ha
    simp only at c1 c2
    subst c1; subst c2
    have ho1 : (s.heap.push (nset w)).get? l = some ⟨.type "list", od, .seq xs m, os⟩ := Heap.get?_push_of_some _ ho
    have b1 := F.sub_list_set; have b2 := F.sub_list_frozenset; have b3 : (Value.type "list" == Value.type "dict") = false := by decide
    have hl1 : (s.heap.push (nset w)).IsList l xs := ⟨_, ho1, rfl, m, rfl⟩
    unfold Builtin.«set.__init__» noKeywords Builtin.Frozenset.updateFrom
    generalize hI : pyIter = PI
    wp_walk
    subst hI
    refine wpAny_pyIter_list hl1 (wpAny_bind (wpAny_runValue ?_))
    have lS : l < s.heap.objs.size := Heap.lt_size ho
    have d3 : A.in1.in1.in1.handled = none := by simp [hd]
    have e1 : (s.heap.push (nset w)).objs.size = s.heap.objs.size + 1 := Heap.size_push ..
    have lI : l ≠ (s.heap.push (nset w)).objs.size := by rw [e1]; exact Nat.ne_of_lt (Nat.lt_succ_of_lt lS)
    have nf : s.heap.objs.size ∉ [(s.heap.push (nset w)).objs.size, l] := by
      rw [e1]; intro z
      rcases List.mem_cons.mp z with q | q
      · exact absurd q (Nat.ne_of_lt (Nat.lt_succ_self _))
      · exact absurd (List.mem_singleton.mp q) (Nat.ne_of_gt lS)
    have vs : ∀ (i : Nat) (v : Value), xs[i]? = some v → ∃ k t, ns[i]? = some k ∧ v = .int k t := fun i v hv => by
      have il : i < ns.length := nl ▸ (Array.getElem?_eq_some_iff.mp hv).1
      obtain ⟨t, e⟩ := hi.int_at i v (by simpa using hv)
      exact ⟨ns[i], t, List.getElem?_eq_getElem il, by rw [e, List.getD_eq_getElem?_getD, List.getElem?_eq_getElem il]; rfl⟩
    refine set_update_ints ((Walks.list d3 _ l lI xs).toS) s.heap.objs.size nf ns nl hz vs (xs.size - 0) 0 _ (by omega) (Nat.zero_le _) ⟨⟨_, Heap.get?_push_size _ rfl, rfl, rfl⟩, hl1.push _⟩ ⟨0, Nat.le_refl 0, setR_new_at (Heap.get?_push_of_some _ gS)⟩ ?_
    intro s3 c3 hm hc3 hS3
    obtain ⟨h3, g3, dr3, tk3, o3⟩ := s3
    have q1 : g3 = s.gens := hm.gens; have q2 : dr3 = s.drawn := hm.drawn; have q3 : o3 = s.os := hm.os
    subst q1; subst q2; subst q3
    refine (show wpAny _ _ _ _ _ _ from wpAny_pure (show wpAny _ _ (ret Value.none) _ _ _ from wpAny_pure ⟨rfl, h3, tk3, c3, rfl, hS3, nl ▸ hc3, fun b o e => ?_⟩))
    have bl : b < s.heap.objs.size := Heap.lt_size e
    refine hm.heap b o ?_ (Heap.get?_push_of_some _ (Heap.get?_push_of_some _ e))
    rw [e1]
    intro z
    rcases List.mem_cons.mp z with q | q
    · exact absurd q (Nat.ne_of_lt bl)
    · exact absurd (List.mem_singleton.mp q) (Nat.ne_of_lt (Nat.lt_succ_of_lt bl))
  · rcases r2 with e | fl
    · exact hr2
    rcases fl with _ | _ | _ | v
    all_goals first | exact hr2.elim | skip
    obtain ⟨rfl, h1, tk, c, rfl, hS, hc, hk⟩ := hr2
    repeat (any_goals (first | assumption | wp_step))
    exact k _ _ _ hS hc hk
end
section
variable {X : Cx}
/-- sorted(set(xs)) -/
def tSortSet (K : PySem.W.Frag) (ta : TE) : TE := fun σ H Q => ta σ H fun x H1 => ∃ (l : Addr) (ns : List Int), x = V.ref l ∧ SqL K H1 l (ns.map V.int) ∧ ns.length < 64 ∧ ∀ ms : List Int, ms.Pairwise (· < ·) → (∀ k, k ∈ ms ↔ k ∈ ns) → New (.lst (ms.map V.int)) H1 Q
theorem pe_sortSet {a : Expr} {ta : TE} {p p2 q pos : Pos} (hg : Gl X "sorted") (hm : X.mg "sorted" = none) (hg2 : Gl X "set") (hm2 : X.mg "set" = none) (ha : PE X a ta) (hc : X.calm = true := by rfl)
    (na : starEach [a] X.env = (false, eval a X.env) :: starEach [] X.env := by rfl) : PE X (.Call (.Name "sorted" p) [.Call (.Name "set" p2) [a] [] q] [] pos) (tSortSet X.K ta) := by
  refine ⟨fun pins s σ H Q I h => ?_⟩
  refine Call_ (ld_blt I hg hm (show bootBuiltins "sorted" = some (.builtin "sorted") by decide +kernel) (PyProof.Rows.callWith_builtin1 (PyProof.Rows.args_cons ?_ rfl) rfl rfl))
  refine Call_ (ld_blt I hg2 hm2 PyProof.Rows.boot_set (PyProof.Rows.callWith_type1 (PyProof.Rows.args_cons (thn (ha.run pins s σ H _ I h) fun v s1 ⟨x, H1, I1, r1, q1⟩ => PyProof.Rows.args_nil ?_) na) na rfl))
  obtain ⟨l, ns, rfl, hq, hz, q1⟩ := q1
  cases r1
  obtain ⟨its, r, pl, _⟩ := I1.list hq
  have hlen : its.length = ns.length := by rw [← r.length, List.length_map]
  refine call_set_lst ns (I1.ok.hd hc) pl.isList (by simpa using r.ints) (by unfold scanBound; omega) fun h1 tk c hS hc1 hk => ?_
  refine PyProof.Rows.args_nil ?_
  have I2 : Inv X pins σ H1 { s1 with heap := h1, toks := tk } := I1.kept hk
  refine sorted_set hS (I2.ok.hd hc) (by omega) fun s' p' out c' ms kp g o hp hgt hi hs hmem hl => ?_
  have ml : (ms.map V.int).length ≤ sizeLine := by rw [List.length_map, hl]; exact Nat.le_trans (show _ ≤ 64 by omega) (by decide)
  have hn : H1 p' = none := I2.hok.fresh hp
  have J : Inv X pins σ (upd H1 p' (.lst (ms.map V.int))) { ({ s1 with heap := h1, toks := tk } : Shared) with heap := s'.heap, gens := s'.gens, drawn := s'.drawn, toks := s'.toks } :=
    I2.call (ch := []) (Un.laid kp hp hn) (I2.hok.laid kp hp ⟨ml, out.toList, c', vals_of_ints hi, hgt⟩) (by rw [g]; exact I2.bare) (fun _ z => nomatch z)
  have e : s' = { ({ s1 with heap := h1, toks := tk } : Shared) with heap := s'.heap, gens := s'.gens, drawn := s'.drawn, toks := s'.toks } := by
    obtain ⟨_, _, _, _, _⟩ := s'
    cases o
    rfl
  rw [e]
  exact ⟨.ref p', _, J, rfl, (q1 ms hs (fun k => by rw [hmem]; simp)).go p' hn⟩
theorem u65 {k : Nat} {A : Around} (r : Room k A) : A.units + 65 < cLine := by have := r.un; omega
/-- x in xs, x not in xs of nested data -/
def rInD (neg : Bool) (K : PySem.W.Frag) : R2 := fun x y H Q => ∃ d ds, Dp K H x d ∧ Dp K H y (.list ds) ∧ SeqAt.shaped d = true ∧ SeqAt.shaped (.list ds) = true ∧ Q (.bl (if neg = true then !(ds.any fun e => PyData.eqv e d) else ds.any fun e => PyData.eqv e d)) H
theorem op_inD (hu : X.A.units + 65 < cLine) : OpR X (compareOp .In) (rInD false X.K) := by
  intro pins s σ H x y v u Q I rx ry ⟨d, ds, hd, he, sd, se, q⟩
  obtain ⟨as, r1⟩ := Dp.reads I d x v hd rx
  obtain ⟨bs, r2⟩ := Dp.reads I _ y u he ry
  exact in_list_reads r2 r1 (canLay_of_shaped se) (canLay_of_shaped sd) (room_in_shaped sd hu) ⟨.bl _, H, I, rfl, q⟩
theorem op_notInD (hu : X.A.units + 65 < cLine) : OpR X (compareOp .NotIn) (rInD true X.K) := by
  intro pins s σ H x y v u Q I rx ry ⟨d, ds, hd, he, sd, se, q⟩
  obtain ⟨as, r1⟩ := Dp.reads I d x v hd rx
  obtain ⟨bs, r2⟩ := Dp.reads I _ y u he ry
  exact notIn_list_reads r2 r1 (canLay_of_shaped se) (canLay_of_shaped sd) (room_in_shaped sd hu) ⟨.bl _, H, I, rfl, q⟩
variable {CX : CXT} {n : Nat} {f C : Addr} {fd : FuncData} {ps : List Str} {sp : Sp} {E : XK}
/-- a + b of an own class -/
def rAddO (C : Addr) (sp : Sp) (E : XK) : R2 := fun x y H Q => ∃ a b dx fs dy gs, x = .ref a ∧ y = .ref b ∧ H a = some (.ins C dx fs) ∧ H b = some (.ins C dy gs) ∧ sp [.ref a, .ref b] H (fun v H' => ∃ r, v = .ref r ∧ Q (.ref r) H') E
theorem op_addO (F : FnOk X.prog X.w X.K X.mg X.base CX n f fd ps sp) (hr : Room n X.A) (hs : PySem.W.findIn X.K (.ref C) "__add__" = some (some (.ref f))) (hf : PySem.W.isFn X.K (.ref f) = true) (hc : PySem.W.selfFirst X.K C = true) (hb : Binds X.K fd ps []) (hx : Passes CX X E) : OpR X (binaryOp .Add) (rAddO C sp E) := by
  intro pins s σ H x y v u Q I rx ry h
  obtain ⟨a, b, dx, fs, dy, gs, rfl, rfl, ha, hb', h⟩ := h
  cases rx
  cases ry
  obtain ⟨mA, J, _⟩ := ins_get I.hok ha
  obtain ⟨mB, J', _⟩ := ins_get I.hok hb'
  obtain ⟨od, J, _⟩ := J.look
  obtain ⟨od', J', _⟩ := J'.look
  obtain ⟨m, hF⟩ := I.fr
  refine PySem.W.binop_K (op := .Add) hF I.ok.mod.kin J J'.type hc hs hf ?_
  refine wpAny_mono (run_here (vs := [V.ref a, V.ref b]) F hr hb hx I (.cons rfl (.cons rfl .nil)) h) (fun u s' z => ?_) fun _ _ e => e
  obtain ⟨v, H', I', rv, r, rfl, q⟩ := z
  cases rv
  exact ⟨.ref r, H', I', rfl, q⟩
end
end My
set_option Elab.async false
set_option linter.all false
set_option maxRecDepth 100000
set_option maxHeartbeats 4000000
/-! [x for x in xs if t], xs a list of ints. -/
namespace My
open PySem PySem.Spec PyProof.Rows L2
theorem mapI_at {ts : List Int} {i : Nat} {x : V} (h : (ts.map V.int)[i]? = some x) : ∃ t, ts[i]? = some t ∧ x = V.int t := by
  rw [List.getElem?_map] at h
  cases q : ts[i]? with
  | none => rw [q] at h; cases h
  | some t => rw [q] at h; cases h; exact ⟨t, rfl, rfl⟩
theorem lc_filtI {K : PySem.W.Frag} {a : Addr} {ns : List Int} {p : Int → Bool} {j : Nat} {tt : TT} {te : TE} {vs : List Nat} {σ : L2.St} {H1 : Hp} {D : Addr} {Qd : Hp → Prop} (hx : SqL K H1 a (ns.map V.int)) (hD : H1 D = none) (hz : ns.length ≤ 1000)
    (hw : ∀ x, wipe ((wipe σ vs).set j (some x)) vs = wipe σ vs)
    (ht : ∀ n H', n ∈ ns → Ex H1 H' → ∀ R : Bool → Hp → Prop, (∀ H2, Ex H' H2 → R (p n) H2) → tt ((wipe σ vs).set j (some (.int n))) H' R)
    (he : ∀ n H' (N : VK), N (.int n) H' → te ((wipe σ vs).set j (some (.int n))) H' N)
    (k : ∀ H', Ex H1 H' → H' D = some (.lst ((ns.filter p).map V.int)) → Qd H') :
    ∃ W : Nat → Nat → Hp → Prop, (∃ m, W 0 m (upd H1 D (.lst []))) ∧ ∀ i m H, W i m H →
      ((Itl K a).stop i H ∧ Qd H) ∨ ((Itl K a).go i H ∧ ∃ Nx : Hp → Prop, (∀ H', Nx H' → ∃ m', m' < m ∧ W (i + 1) m' H') ∧ ∀ x H', (Itl K a).yld i H x H' → gName j x (wipe σ vs) H' fun σ2 H2 => wipe σ2 vs = wipe σ vs ∧ tt σ2 H2 fun b H3 =>
        if b = true then te σ2 H3 fun y H4 => ∃ acc, H4 D = some (.lst acc) ∧ acc.length < sizeLine ∧ Nx (upd H4 D (.lst (acc ++ [y]))) else Nx H3) := by
  refine lc_it (walk_list (K := K) (a := a) (xs := ns.map V.int)) (fun i H' => Ex H1 H' ∧ H' D = some (.lst (((ns.take i).filter p).map V.int))) ⟨Evl.Ex.new hD, upd_same⟩ (fun i H' _ z => Evl.ex_l z.1 hx) ?_ ?_
  · rintro i v HX H3 hi ⟨e3, d3⟩ ⟨rfl, hv⟩
    obtain ⟨n, hn, rfl⟩ := mapI_at hv
    rw [List.length_map] at hi
    refine ⟨hw _, ?_⟩
    show tt ((wipe σ vs).set j (some (.int n))) _ _
    refine ht n _ (List.mem_of_getElem? hn) e3 _ fun H4 e4 => ?_
    rw [take_snoc hn, List.filter_append, List.filter_cons]
    cases q : p n with
    | true =>
      refine iteT (he n _ _ ⟨_, e4 _ _ d3, ?_, Evl.Ex.mut (e3.trans e4) hD, ?_⟩)
      · rw [List.length_map]
        refine Nat.lt_of_le_of_lt (List.length_filter_le _ _) ?_
        rw [List.length_take]
        exact Nat.lt_of_le_of_lt (show _ ≤ 1000 by omega) (by decide)
      · rw [upd_same, List.map_append]
        rfl
    | false =>
      refine iteF ⟨e3.trans e4, ?_⟩
      rw [e4 _ _ d3]
      simp
  · rintro H' ⟨e', d'⟩
    rw [List.length_map, List.take_length] at d'
    exact k H' e' d'
end My
namespace My
open PySem PySem.Spec PyProof.Rows L2
/-- a walk within a comprehension -/
theorem piK {X : Cx} {K : PySem.W.Frag} {r : PySem.W.Frag → TE → TI} {tg it : Expr} {tl : TE} (h : X.K = K) (p : PI X tg it (r X.K tl)) : PI X tg it (r K tl) := h ▸ p
/-- lists of lists of ints, sorted -/
def srtL (L : List (List Int)) : List (List Int) := L.mergeSort (PySem.W.dataLe false (eL PyData.int))
theorem rowsLe : PySem.W.dataLe false (eL PyData.int : List Int → PyData) = fun p q => decide (p ≤ q) := PySem.W.dataLe_rows (β := List Int) id
theorem srtL_congr {A B : List (List Int)} (h : A.Perm B) : srtL A = srtL B := by
  unfold srtL
  rw [rowsLe]
  have pw : ∀ L : List (List Int), (L.mergeSort (fun p q => decide (p ≤ q))).Pairwise (· ≤ ·) := fun L => by
    have := List.pairwise_mergeSort (le := fun (p q : List Int) => decide (p ≤ q)) (fun a b c h1 h2 => by simp at *; exact List.le_trans h1 h2) (fun a b => by simpa using List.le_total a b) L
    exact this.imp fun h => by simpa using h
  exact List.Perm.eq_of_pairwise (le := (· ≤ ·)) (fun a b _ _ h1 h2 => List.le_antisymm h1 h2) (pw A) (pw B) ((List.mergeSort_perm _ _).trans (h.trans (List.mergeSort_perm _ _).symm))
theorem srtL_len (L : List (List Int)) : (srtL L).length = L.length := List.length_mergeSort ..
theorem inD_mem {α : Type} [DecidableEq α] {e : α → PyData} {n : Nat} (g : Good e n) (x : α) (L : List α) : ((L.map e).any fun d => PyData.eqv d (e x)) = decide (x ∈ L) := by
  rw [List.any_map, Bool.eq_iff_iff, List.any_eq_true, decide_eq_true_eq]
  constructor
  · rintro ⟨y, hy, h⟩
    have h : PyData.eqv (e y) (e x) = true := h
    rw [g.eqv] at h
    exact of_decide_eq_true h ▸ hy
  · intro h
    exact ⟨x, h, by show PyData.eqv (e x) (e x) = true; rw [g.eqv]; exact decide_eq_true rfl⟩
theorem alikeLs (cs : List (List Int)) : PySem.W.AllAlike (cs.map (eL PyData.int)) := PySem.W.AllAlike.of fun b b' => by
  unfold eL
  rw [PySem.W.alike]
  exact PySem.W.alike_ints b b'
theorem sortLs (cs : List (List Int)) : PySem.W.Sortable (cs.map (eL PyData.int)) := PySem.W.Sortable.others fun b => ⟨(by intro z; cases z), (by intro xs z; cases z)⟩
theorem depLs (cs : List (List Int)) : ∀ d ∈ cs.map (eL PyData.int), d.depth ≤ 60 := fun d hd => by
  obtain ⟨c, _, rfl⟩ := List.mem_map.mp hd
  have := (goodL goodI).dep c
  omega
end My
set_option Elab.async false
set_option linter.all false
set_option maxRecDepth 100000
set_option maxHeartbeats 4000000
/-! enumerate of a tuple. -/
namespace My
open PySem PySem.Spec PyProof.Rows L2
set_option maxHeartbeats 1000000 in
theorem meets_enumerate_newT (l : Addr) (items : Array Value) :
    Meets (Builtin.«enumerate.__new__» ⟨[.type "enumerate", .ref l], []⟩) (fun _ R s => s.heap.IsTuple l items ∧
      R (.ok (.ret (.ref (s.heap.push { cls := .type "tuple_iterator", data := .fields #[.ref l, .int 0 0] }).objs.size)))
        { s with heap := (s.heap.push { cls := .type "tuple_iterator", data := .fields #[.ref l, .int 0 0] }).push { cls := .type "enumerate", data := .fields #[.none, .bool false, .ref s.heap.objs.size, rawInt 0, .none, .none] } }) :=
  .of_wp fun prog w A R s h => by
    obtain ⟨hp, g, d, tk, os⟩ := s; obtain ⟨h1, h⟩ := h
    have hsub := sub_enumerate
    have q1 : ∀ {A' : Around} {E : Value → Shared → Prop} {Q : Value → Shared → Prop}, Q (.ref hp.objs.size) ⟨hp.push { cls := .type "tuple_iterator", data := .fields #[.ref l, .int 0 0] }, g, d, tk, os⟩ → wpAny (model prog w) A' (pyIter (.ref l)) Q E ⟨hp, g, d, tk, os⟩ :=
      fun q => (begins_tuple l items).iter prog w _ _ ⟨hp, g, d, tk, os⟩ _ h1 q
    wp_walk using q1
    refine wpAny_stack_any fun st => wpAny_pure ?_
    split
    · rename_i c _ _ _ _ _
      cases (c == Value.type "enumerate")
      · wp_walk using q1
        exact ⟨_, rfl, h⟩
      · wp_walk using q1
        exact ⟨_, rfl, h⟩
    · wp_walk using q1
      exact ⟨_, rfl, h⟩
section
variable {prog : Program} {w : World} {A : Around} {E : Value → Shared → Prop} {s : Shared}
theorem call_enumerate_tuple {l : Addr} {items : Array Value} {Q : Value → Shared → Prop} (hL : s.heap.IsTuple l items)
    (h : ∀ h', IsEnum h' (s.heap.objs.size + 1) s.heap.objs.size 0 .none → h'.IsTupleIter s.heap.objs.size l 0 → h'.objs.size = s.heap.objs.size + 2 →
      (∀ b o, s.heap.get? b = some o → h'.get? b = some o) → Q (.ref (s.heap.objs.size + 1)) { s with heap := h' }) :
    wpAny (model prog w) A (call (.type "enumerate") [.ref l]) Q E s := by
  refine callType_new F.called_enumerate (by decide) (F.typeCall_enumerate_1 _) (F.newCall_enumerate_1 _) (fun obj => F.args_object_init_2 obj _) F.entry_enumerate_new
    (meets_enumerate_newT l items) ⟨hL, ?_⟩
  have hz : (s.heap.push { cls := .type "tuple_iterator", data := .fields #[.ref l, .int 0 0] }).objs.size = s.heap.objs.size + 1 := Heap.size_push ..
  show _ ∧ _
  rw [hz]
  have he : IsEnum ((s.heap.push { cls := .type "tuple_iterator", data := .fields #[.ref l, .int 0 0] }).push
      { cls := .type "enumerate", data := .fields #[.none, .bool false, .ref s.heap.objs.size, rawInt 0, .none, .none] }) (s.heap.objs.size + 1) s.heap.objs.size 0 .none := by
    have := Heap.get?_push_size (s.heap.push { cls := .type "tuple_iterator", data := .fields #[.ref l, .int 0 0] })
      (o := { cls := .type "enumerate", data := .fields #[.none, .bool false, .ref s.heap.objs.size, rawInt 0, .none, .none] }) rfl
    rw [hz] at this; exact this
  refine ⟨⟨_, he, rfl⟩, h _ he ⟨_, Heap.get?_push_of_some _ (Heap.get?_push_size _ rfl), rfl, rfl⟩ (by rw [Heap.size_push, hz]) fun b o x => Heap.get?_push_of_some _ (Heap.get?_push_of_some _ x)⟩
end
/-- the tuple at a as it stands at each turn, each item in a new pair -/
def Itet (K : PySem.W.Frag) (a : Addr) : It :=
  ⟨fun i H => ∃ (xs : List V) (x : V), SqT K H a xs ∧ xs[i]? = some x, fun i H v H' => ∃ T x, v = .ref T ∧ H T = none ∧ H' = upd H T (.tup [.int (i : Nat), x]) ∧ ∀ xs, SqT K H a xs → xs[i]? = some x, fun i H => ∃ xs : List V, SqT K H a xs ∧ xs.length = i⟩
theorem tup_apart {h : Heap} {e it a : Addr} {items : Array Value} {n : Int} {old : Value} {i : Nat} (he : IsEnum h e it n old) (hit : h.IsTupleIter it a i) (p : h.IsTuple a items) : a ≠ it ∧ a ≠ e := by
  obtain ⟨o, ho, hc, _⟩ := p
  obtain ⟨o2, ho2, hc2, _⟩ := hit
  refine ⟨fun z => ?_, fun z => ?_⟩
  · subst z
    rw [ho] at ho2
    cases ho2
    rw [hc] at hc2
    exact absurd hc2 (by decide)
  · subst z
    have he : h.get? a = _ := he
    rw [ho] at he
    cases he
    exact absurd (show Value.type "enumerate" = Value.type "tuple" from hc) (by decide)
theorem turn_enumT {P : Program} {w : World} {K : PySem.W.Frag} {elts : List Expr} {kk : Nat} {tpos : Pos} (a e it : Addr) :
    Turn P w K (.Tuple elts kk tpos) (Itet K a) [e, it] e (fun i h => (∃ old, IsEnum h e it ((i : Nat) : Int) old) ∧ h.IsTupleIter it a i ∧ e ≠ it) where
  mem := by simp
  obj := fun i h st b hb => by
    obtain ⟨⟨old, he⟩, ⟨o, ho, hc, hd⟩, _⟩ := st
    have e' : b = e ∨ b = it := by simpa using hb
    rcases e' with z | z
    · rw [z]; exact ⟨_, he, fun v q => nomatch q⟩
    · rw [z]; exact ⟨o, ho, fun v q => by rw [hd] at q; cases q⟩
  keep := fun i h h' st k => let ⟨⟨old, he⟩, hi, hne⟩ := st; ⟨⟨old, k e (by simp) _ he⟩, hi.at fun o q => k it (by simp) o q, hne⟩
  item := by
    intro X hP hw hK hc i pins s σ H E I hf st hg
    subst hP hw hK
    obtain ⟨⟨old, he⟩, hit, hne⟩ := st
    obtain ⟨xs, x, hq, hx⟩ := hg
    obtain ⟨its, rv, p, hz⟩ := I.tuple hq
    obtain ⟨u, hu, ru⟩ := rv.get hx
    have hel : e < s.heap.objs.size := Heap.lt_size he
    have hil : it < s.heap.objs.size := by obtain ⟨_, q, _⟩ := hit; exact Heap.lt_size q
    obtain ⟨na1, na2⟩ := tup_apart he hit p
    have hlt : i < its.toArray.size := by
      rw [List.size_toArray]
      exact (List.getElem?_eq_some_iff.mp hu).1
    refine wpAny_pyNext_enum_itemC (Draws.tuple (show X.A.in1.handled = none from I.ok.hd hc) it a na1 its.toArray) he ⟨hit, p⟩ hlt hne (by simp [hne, na2.symm]) fun x' h' tk hP ho hst' hT hsz hk => ?_
    have ex : x' = u := by
      have hP : its.toArray[i]? = some x' := hP
      simp only [List.getElem?_toArray] at hP
      rw [hu] at hP
      exact (Option.some.inj hP).symm
    subst ex
    refine ⟨_, rfl, wpAny_letOwnedTupleGo_enum (s := { s with heap := h', toks := tk + 1 }) ho fun h'' he' sb => ?_⟩
    have hT2 : h''.get? s.heap.objs.size = some { cls := .type "tuple", data := .seq #[.int i tk, x'] } := (sb.2 _ (Nat.ne_of_gt hel)).trans hT
    have new : ObjOk X.prog X.w (upd H s.heap.objs.size (.tup [.int (i : Nat), x])) h'' s.heap.objs.size (.tup [.int (i : Nat), x]) :=
      ⟨by show 2 ≤ sizeLine; decide, [.int i tk, x'], .cons ⟨_, rfl⟩ (.cons ru .nil), ⟨_, hT2, rfl, _, rfl⟩⟩
    have I1 : Inv X pins σ (upd H s.heap.objs.size (.tup [.int (i : Nat), x])) { s with heap := h'', toks := tk + 1 } :=
      I.turnedNew (ch := [e, it]) (fun b ob hb q => (sb.2 b (fun z => hb (by simp [z]))).trans (hk b ob (fun z => hb (by simp [z])) (fun z => hb (by simp [z])) q)) hf (Nat.le_refl _) new
    refine ⟨.ref s.heap.objs.size, _, I1, rfl, ⟨_, x, rfl, I.hok.fresh (Nat.le_refl _), rfl, fun ys hy => by rw [I.tuple_inj hy hq]; exact hx⟩, ⟨⟨x', ?_⟩, hst'.1.at fun o q => (sb.2 it (Ne.symm hne)).trans q, hne⟩, fun b hb => ?_⟩
    · have e1 : ((i + 1 : Nat) : Int) = (i : Int) + 1 := by omega
      rw [e1]; exact he'
    · have hb' : b < s.heap.objs.size := by
        have e' : b = e ∨ b = it := by simpa using hb
        rcases e' with z | z
        · rw [z]; exact hel
        · rw [z]; exact hil
      rw [upd_ne (Nat.ne_of_lt hb')]
      exact (hf b hb).1
  done := by
    intro X hP hw hK hc i pins s σ H E I hf st hg
    subst hP hw hK
    obtain ⟨⟨old, he⟩, hit, hne⟩ := st
    obtain ⟨xs, hq, hx⟩ := hg
    obtain ⟨its, rv, p, hz⟩ := I.tuple hq
    obtain ⟨f0, f1, f2, f3, f4, f5⟩ := hf it (by simp)
    have hl := rv.length
    obtain ⟨na1, na2⟩ := tup_apart he hit p
    have en : i = its.toArray.size := by
      rw [List.size_toArray]
      omega
    subst en
    exact wpAny_pyNext_enum_endD (Draws.tuple (show X.A.in1.handled = none from I.ok.hd hc) it a na1 its.toArray) he ⟨hit, p⟩ fun h' eb => ⟨rfl, I.turned (t' := s.toks) (fun b o hb q => eb b o hb q) f0 f1 f3 f4 f5⟩
  self := fun A i s Q E st h => let ⟨⟨_, he⟩, _⟩ := st; wpAny_pyIter_enum he h
def iEnumT (K : PySem.W.Frag) (ta : TA) : TI := fun σ H R => ta σ H fun vs H1 => ∃ a xs, vs = [.ref a] ∧ SqT K H1 a xs ∧ R (Itet K a) H1
theorem pi_enumT {X : Cx} {e : Expr} {ta : TA} {p pos tpos : Pos} {elts : List Expr} {kk : Nat} (hg : Gl X "enumerate") (hm : X.mg "enumerate" = none) (ha : PA X [e] ta) (hs : starEach [e] X.env = [(false, eval e X.env)] := by rfl) :
    PI X (.Tuple elts kk tpos) (.Call (.Name "enumerate" p) [e] [] pos) (iEnumT X.K ta) := by
  refine ⟨fun pins s σ H R I h => ?_⟩
  refine Call_ (ld_blt I hg hm boot_enumerate (PyProof.Rows.callWith_type1 (thn (ha.run pos pins s σ H _ I h) fun us s1 ⟨vs, H1, I1, r1, q1⟩ => ?_) hs rfl))
  obtain ⟨a, xs, ex, hq, q⟩ := q1
  subst ex
  cases r1 with
  | cons r rr =>
    cases rr
    cases r
    obtain ⟨its, rv, p', hz⟩ := I1.tuple hq
    refine call_enumerate_tuple p' fun h' he hit hsz hk => wpAny_pyIter_enum he ?_
    have I2 : Inv X pins σ H1 { s1 with heap := h' } := I1.kept (t' := s1.toks) hk
    refine ⟨s1.heap.objs.size + 1, [s1.heap.objs.size + 1, s1.heap.objs.size], _, _, H1, rfl, I2, turn_enumT a (s1.heap.objs.size + 1) s1.heap.objs.size, ⟨⟨.none, he⟩, hit, Nat.succ_ne_self _⟩, fun b hb => ?_, q⟩
    have e' : b = s1.heap.objs.size + 1 ∨ b = s1.heap.objs.size := by simpa using hb
    have hle : s1.heap.objs.size ≤ b := by
      rcases e' with z | z
      · rw [z]; exact Nat.le_add_right _ _
      · rw [z]; exact Nat.le_refl _
    exact I1.fpOk hle (I1.hok.fresh hle)
theorem walk_enumT {K : PySem.W.Frag} {a : Addr} {xs : List V} : Walk (Itet K a) xs.length (fun H => SqT K H a xs) (YPair (fun i => some (.int (i : Nat))) (fun i => xs[i]?)) := by
  refine ⟨fun i _ hi q => ⟨xs, xs[i], q, by simp [hi]⟩, fun _ q => ⟨xs, q, rfl⟩, fun i H v H' _ q y => ?_⟩
  obtain ⟨T, x, h1, h2, h3, h4⟩ := y
  exact ⟨T, .int (i : Nat), x, h1, h2, h3, rfl, h4 xs q⟩
end My
set_option Elab.async false
set_option linter.all false
set_option maxRecDepth 100000
set_option maxHeartbeats 4000000
/-! len(set(xs)) of a list of ints with doubles. -/
namespace My
open PySem PySem.Spec PyProof.Rows L2
/-- so many different ones -/
def Diff (ns : List Int) (c : Nat) : Prop := ∃ ms : List Int, ms.Nodup ∧ (∀ k, k ∈ ms ↔ k ∈ ns) ∧ ms.length = c
def tLenSetG (K : PySem.W.Frag) (ta : TE) : TE := fun σ H Q => ta σ H fun x H1 => ∃ (l : Addr) (ns : List Int), x = V.ref l ∧ SqL K H1 l (ns.map V.int) ∧ ns.length ≤ 2000 ∧ ∀ c : Nat, Diff ns c → Q (.int (c : Nat)) H1
theorem pe_lenSetG {X : Cx} {a : Expr} {ta : TE} {p p2 q pos : Pos} (hg : Gl X "len") (hm : X.mg "len" = none) (hg2 : Gl X "set") (hm2 : X.mg "set" = none) (ha : PE X a ta) (hc : X.calm = true := by rfl)
    (na : starEach [a] X.env = (false, eval a X.env) :: starEach [] X.env := by rfl) : PE X (.Call (.Name "len" p) [.Call (.Name "set" p2) [a] [] q] [] pos) (tLenSetG X.K ta) := by
  refine ⟨fun pins s σ H Q I h => ?_⟩
  refine Call_ (ld_blt I hg hm boot_len ?_)
  refine PyProof.Rows.callWith_builtin1 (PyProof.Rows.args_cons ?_ rfl) rfl rfl
  refine Call_ (ld_blt I hg2 hm2 PyProof.Rows.boot_set ?_)
  refine PyProof.Rows.callWith_type1 (PyProof.Rows.args_cons (thn (ha.run pins s σ H _ I h) fun v s1 ⟨x, H1, I1, r1, q1⟩ => PyProof.Rows.args_nil ?_) na) na rfl
  obtain ⟨l, ns, rfl, hq, hz, q1⟩ := q1
  cases r1
  obtain ⟨its, r, pl, _⟩ := I1.list hq
  refine call_set_lst ns (I1.ok.hd hc) pl.isList (by simpa using r.ints) (by unfold scanBound; omega) fun h1 tk c hS hc1 hk => ?_
  refine PyProof.Rows.args_nil ?_
  obtain ⟨o, es, ep, t, ho, hex, hd, _, hnd, hS2, _, hf, hn, _⟩ := hS
  have I2 : Inv X pins σ H1 { s1 with heap := h1, toks := tk } := I1.kept hk
  refine call_len_set ho hex hd hf (by rw [hn]; omega) ⟨.int c, H1, I2.tok _, ⟨_, by rw [hn]⟩, q1 c ⟨es.toList.map keyOf, hnd, fun k => ?_, ?_⟩⟩
  · rw [← hS2 k]
    simp
  · rw [List.length_map, Array.length_toList]
    exact hn
theorem diff_nodup {ns : List Int} {c : Nat} (h : Diff ns c) : c = ns.length ↔ ns.Nodup := by
  obtain ⟨ms, h1, h2, h3⟩ := h
  subst h3
  constructor
  · intro e
    -- ms is nodup, the same members, as long: ns has no doubles
    have : ∀ {ns ms : List Int}, ms.Nodup → (∀ k, k ∈ ms → k ∈ ns) → ns.length ≤ ms.length → ns.Nodup := fun {ns} => by
      induction ns with
      | nil => intro ms _ _ _; exact List.nodup_nil
      | cons x ns ih =>
        intro ms hm hs hl
        have h0 : x ∈ ms ∧ x ∉ ns := by
          by_cases a : x ∈ ms
          · refine ⟨a, fun b => ?_⟩
            have := nodup_len (l := ms) (m := ns) hm fun k hk => by
              rcases List.mem_cons.mp (hs k hk) with z | z
              · rw [z]; exact b
              · exact z
            rw [List.length_cons] at hl
            omega
          · exfalso
            have := nodup_len (l := ms) (m := ns) hm fun k hk => by
              rcases List.mem_cons.mp (hs k hk) with z | z
              · rw [z] at hk; exact absurd hk a
              · exact z
            rw [List.length_cons] at hl
            omega
        refine List.nodup_cons.mpr ⟨h0.2, ih (ms := ms.erase x) (hm.erase x) (fun k hk => ?_) ?_⟩
        · have hk' := List.mem_of_mem_erase hk
          rcases List.mem_cons.mp (hs k hk') with z | z
          · rw [z] at hk
            exact absurd hk (fun y => (List.Nodup.mem_erase_iff hm).mp y |>.1 rfl)
          · exact z
        · rw [List.length_erase_of_mem h0.1]
          rw [List.length_cons] at hl
          omega
    exact this h1 (fun k hk => (h2 k).mp hk) (by omega)
  · intro hn
    exact Nat.le_antisymm (nodup_len h1 fun k hk => (h2 k).mp hk) (nodup_len hn fun k hk => (h2 k).mpr hk)
end My
set_option Elab.async false
set_option linter.all false
set_option maxRecDepth 100000
set_option maxHeartbeats 4000000
/-! further comprehensions over lists: any target; kept objects. -/
namespace My
open PySem PySem.Spec PyProof.Rows L2
/-- no tests, any target, the values known -/
theorem lc_mapG {K : PySem.W.Frag} {a : Addr} {xs ys : List V} {g : TG} {te : TE} {vs : List Nat} {σ : L2.St} {H1 : Hp} {D : Addr} {Qd : Hp → Prop} (hx : SqL K H1 a xs) (hD : H1 D = none) (hl : ys.length = xs.length) (hz : xs.length ≤ sizeLine)
    (he : ∀ (i : Nat) x y H', Ex H1 H' → xs[i]? = some x → ys[i]? = some y → ∀ (N : VK) (Z : Hp → Prop), (∀ H2, Ex H' H2 → N y H2) → g x (wipe σ vs) H' fun σ2 H2 => wipe σ2 vs = wipe σ vs ∧ tYes σ2 H2 fun b H3 => if b = true then te σ2 H3 N else Z H3)
    (k : ∀ H', Ex H1 H' → H' D = some (.lst ys) → Qd H') :
    ∃ W : Nat → Nat → Hp → Prop, (∃ m, W 0 m (upd H1 D (.lst []))) ∧ ∀ i m H, W i m H →
      ((Itl K a).stop i H ∧ Qd H) ∨ ((Itl K a).go i H ∧ ∃ Nx : Hp → Prop, (∀ H', Nx H' → ∃ m', m' < m ∧ W (i + 1) m' H') ∧ ∀ x H', (Itl K a).yld i H x H' → g x (wipe σ vs) H' fun σ2 H2 => wipe σ2 vs = wipe σ vs ∧ tYes σ2 H2 fun b H3 =>
        if b = true then te σ2 H3 fun y H4 => ∃ acc, H4 D = some (.lst acc) ∧ acc.length < sizeLine ∧ Nx (upd H4 D (.lst (acc ++ [y]))) else Nx H3) := by
  refine lc_objL (R := fun _ v (y : V) => v = y) hx hD hl hz (fun _ _ _ _ r _ => r) (fun i x y H' e _ hx hy N Z kN => he i x y H' e hx hy N Z fun H2 e2 => kN y H2 e2 rfl) fun H' us e d r => k H' e ?_
  have : us = ys := by
    refine List.ext_getElem? fun i => ?_
    cases z : us[i]? with
    | none => rw [List.getElem?_eq_none (by rw [← r.1]; exact List.getElem?_eq_none_iff.mp z)]
    | some v =>
      obtain ⟨y, h1, h2⟩ := r.get z
      rw [h1, h2]
  rw [← this]
  exact d
/-- the items of which p holds, themselves -/
theorem lc_filtO {α : Type} {K : PySem.W.Frag} {a : Addr} {xs : List V} {ys : List α} {R : V → α → Prop} {p : α → Bool} {j : Nat} {tt : TT} {te : TE} {vs : List Nat} {σ : L2.St} {H1 : Hp} {D : Addr} {Qd : Hp → Prop} (hx : SqL K H1 a xs) (hR : AllR R xs ys) (hD : H1 D = none) (hz : xs.length ≤ 1000)
    (hw : ∀ x, wipe ((wipe σ vs).set j (some x)) vs = wipe σ vs)
    (ht : ∀ v y H', y ∈ ys → R v y → Ex H1 H' → ∀ Z : Bool → Hp → Prop, (∀ H2, Ex H' H2 → Z (p y) H2) → tt ((wipe σ vs).set j (some v)) H' Z)
    (he : ∀ v H' (N : VK), N v H' → te ((wipe σ vs).set j (some v)) H' N)
    (k : ∀ H' us, Ex H1 H' → H' D = some (.lst us) → AllR R us (ys.filter p) → Qd H') :
    ∃ W : Nat → Nat → Hp → Prop, (∃ m, W 0 m (upd H1 D (.lst []))) ∧ ∀ i m H, W i m H →
      ((Itl K a).stop i H ∧ Qd H) ∨ ((Itl K a).go i H ∧ ∃ Nx : Hp → Prop, (∀ H', Nx H' → ∃ m', m' < m ∧ W (i + 1) m' H') ∧ ∀ x H', (Itl K a).yld i H x H' → gName j x (wipe σ vs) H' fun σ2 H2 => wipe σ2 vs = wipe σ vs ∧ tt σ2 H2 fun b H3 =>
        if b = true then te σ2 H3 fun y H4 => ∃ acc, H4 D = some (.lst acc) ∧ acc.length < sizeLine ∧ Nx (upd H4 D (.lst (acc ++ [y]))) else Nx H3) := by
  refine lc_it (walk_list (K := K) (a := a) (xs := xs)) (fun i H' => ∃ us, Ex H1 H' ∧ H' D = some (.lst us) ∧ us.length ≤ i ∧ AllR R us ((ys.take i).filter p)) ⟨[], Evl.Ex.new hD, upd_same, Nat.le_refl _, AllR.nil⟩ (fun i H' _ ⟨_, e, _⟩ => Evl.ex_l e hx) ?_ ?_
  · rintro i v HX H3 hi ⟨us, e3, d3, l3, a3⟩ ⟨rfl, hv⟩
    obtain ⟨y, hy, r⟩ := hR.get hv
    refine ⟨hw _, ?_⟩
    show tt ((wipe σ vs).set j (some v)) _ _
    refine ht v y _ (List.mem_of_getElem? hy) r e3 _ fun H4 e4 => ?_
    rw [take_snoc hy, List.filter_append, List.filter_cons]
    cases q : p y with
    | true =>
      refine iteT (he v _ _ ⟨us, e4 _ _ d3, Nat.lt_of_le_of_lt (show _ ≤ 1000 by omega) (by decide), us ++ [v], Evl.Ex.mut (e3.trans e4) hD, upd_same, by simp; omega, ?_⟩)
      exact AllR.snoc a3 r
    | false =>
      refine iteF ⟨us, e3.trans e4, e4 _ _ d3, by omega, ?_⟩
      simpa using a3
  · rintro H' ⟨us, e', d', l', a'⟩
    rw [List.take_of_length_le (by rw [← hR.1]; exact Nat.le_refl _)] at a'
    exact k H' us e' d' a'
/-- ints of a range, with a test -/
theorem lc_filtR {lo : Int} {n : Nat} {p : Int → Bool} {j : Nat} {tt : TT} {te : TE} {vs : List Nat} {σ : L2.St} {H1 : Hp} {D : Addr} {Qd : Hp → Prop} (hD : H1 D = none) (hz : n ≤ 1000)
    (hw : ∀ x, wipe ((wipe σ vs).set j (some x)) vs = wipe σ vs)
    (ht : ∀ (i : Nat) H', i < n → Ex H1 H' → ∀ Z : Bool → Hp → Prop, (∀ H2, Ex H' H2 → Z (p (lo + i)) H2) → tt ((wipe σ vs).set j (some (.int (lo + i)))) H' Z)
    (he : ∀ v H' (N : VK), N v H' → te ((wipe σ vs).set j (some v)) H' N)
    (k : ∀ H', Ex H1 H' → H' D = some (.lst ((((List.range n).map fun i => lo + ((i : Nat) : Int)).filter p).map V.int)) → Qd H') :
    ∃ W : Nat → Nat → Hp → Prop, (∃ m, W 0 m (upd H1 D (.lst []))) ∧ ∀ i m H, W i m H →
      ((Itr lo n).stop i H ∧ Qd H) ∨ ((Itr lo n).go i H ∧ ∃ Nx : Hp → Prop, (∀ H', Nx H' → ∃ m', m' < m ∧ W (i + 1) m' H') ∧ ∀ x H', (Itr lo n).yld i H x H' → gName j x (wipe σ vs) H' fun σ2 H2 => wipe σ2 vs = wipe σ vs ∧ tt σ2 H2 fun b H3 =>
        if b = true then te σ2 H3 fun y H4 => ∃ acc, H4 D = some (.lst acc) ∧ acc.length < sizeLine ∧ Nx (upd H4 D (.lst (acc ++ [y]))) else Nx H3) := by
  refine lc_range (fun i H' => Ex H1 H' ∧ H' D = some (.lst ((((List.range i).map fun i => lo + ((i : Nat) : Int)).filter p).map V.int))) ⟨Evl.Ex.new hD, upd_same⟩ ?_ ?_
  · rintro i H3 hi ⟨e3, d3⟩
    refine ⟨hw _, ?_⟩
    show tt ((wipe σ vs).set j (some (.int (lo + i)))) _ _
    refine ht i _ hi e3 _ fun H4 e4 => ?_
    rw [List.range_succ, List.map_append, List.filter_append, List.map_cons, List.map_nil, List.filter_cons]
    cases q : p (lo + i) with
    | true =>
      refine iteT (he _ _ _ ⟨_, e4 _ _ d3, ?_, Evl.Ex.mut (e3.trans e4) hD, ?_⟩)
      · rw [List.length_map]
        refine Nat.lt_of_le_of_lt (List.length_filter_le _ _) ?_
        rw [List.length_map, List.length_range]
        exact Nat.lt_of_le_of_lt (show _ ≤ 1000 by omega) (by decide)
      · rw [upd_same, List.map_append]
        rfl
    | false =>
      refine iteF ⟨e3.trans e4, ?_⟩
      rw [e4 _ _ d3]
      simp
  · rintro H' ⟨e', d'⟩
    exact k H' e' d'
end My
set_option Elab.async false
set_option linter.all false
set_option maxRecDepth 100000
set_option maxHeartbeats 4000000
/-! displays of lists and tuples all of whose parts are known data. -/
namespace My
open PySem PySem.Spec PyProof.Rows L2
mutual
theorem dpEx {K : PySem.W.Frag} {H H' : Hp} (e : Ex H H') : ∀ {v : V} {d : PyData}, Dp K H v d → Dp K H' v d
  | _, _, .non => .non
  | _, _, .bl b => .bl b
  | _, _, .int i => .int i
  | _, _, .str x => .str x
  | _, _, .lst h a => .lst (Evl.ex_l e h) (dpAllEx e a)
  | _, _, .tup h a => .tup (Evl.ex_t e h) (dpAllEx e a)
theorem dpAllEx {K : PySem.W.Frag} {H H' : Hp} (e : Ex H H') : ∀ {vs : List V} {ds : List PyData}, DpAll K H vs ds → DpAll K H' vs ds
  | _, _, .nil => .nil
  | _, _, .cons h a => .cons (dpEx e h) (dpAllEx e a)
end
theorem dpAll_len {K : PySem.W.Frag} {H : Hp} : ∀ {vs : List V} {ds : List PyData}, DpAll K H vs ds → vs.length = ds.length
  | _, _, .nil => rfl
  | _, _, .cons _ a => by simp [dpAll_len a]
theorem dpAll_app {K : PySem.W.Frag} {H : Hp} : ∀ {vs us : List V} {ds es : List PyData}, DpAll K H vs ds → DpAll K H us es → DpAll K H (vs ++ us) (ds ++ es)
  | _, _, _, _, .nil, b => b
  | _, _, _, _, .cons h a, b => .cons h (dpAll_app a b)
theorem dpAll_at {K : PySem.W.Frag} {H : Hp} : ∀ {vs : List V} {ds : List PyData} (_ : DpAll K H vs ds) {i : Nat} {v : V}, vs[i]? = some v → ∃ d, ds[i]? = some d ∧ Dp K H v d
  | _, _, .nil, i, v, h => by cases h
  | _, _, .cons h a, 0, v, e => by cases e; exact ⟨_, rfl, h⟩
  | _, _, .cons h a, i + 1, v, e => dpAll_at a e
def tLit (K : PySem.W.Frag) (d : PyData) : TE := fun σ H Q => ∀ v H', Ex H H' → Dp K H' v d → Q v H'
def tLits (K : PySem.W.Frag) (ds : List PyData) : TA := fun σ H Q => ∀ vs H', Ex H H' → DpAll K H' vs ds → Q vs H'
section
variable {X : Cx} {e : Expr} {es : List Expr} {d : PyData} {ds : List PyData} {pos : Pos}
theorem pl_int {i : Int} {j : Nat} : PE X (.Constant (.int i) j pos) (tLit X.K (.int i)) := pe_weak pe_int fun σ H Q q => q _ H (Evl.Ex.refl H) (.int i)
theorem pl_bl {b : Bool} {j : Nat} : PE X (.Constant (.bool b) j pos) (tLit X.K (.bool b)) := pe_weak pe_bl fun σ H Q q => q _ H (Evl.Ex.refl H) (.bl b)
theorem pl_non {j : Nat} : PE X (.Constant .none j pos) (tLit X.K .none) := pe_weak pe_non fun σ H Q q => q _ H (Evl.Ex.refl H) .non
theorem pl_str {x : Str} {j : Nat} : PE X (.Constant (.str x) j pos) (tLit X.K (.str x)) := pe_weak pe_str fun σ H Q q => q _ H (Evl.Ex.refl H) (.str x)
theorem pl_neg {i : Int} {j : Nat} {p2 : Pos} : PE X (.UnaryOp .USub (.Constant (.int i) j p2) pos) (tLit X.K (.int (-i))) := pe_weak (pe_un un_neg pe_int) fun σ H Q q => ⟨_, rfl, q _ H (Evl.Ex.refl H) (.int _)⟩
theorem pl_nil : PA X [] (tLits X.K []) := ⟨fun pos pins s σ H Q I q => pa_nil.run pos pins s σ H Q I (q [] H (Evl.Ex.refl H) .nil)⟩
theorem pl_cons (he : PE X e (tLit X.K d)) (hr : PA X es (tLits X.K ds)) (hn : starEach (e :: es) X.env = (false, eval e X.env) :: starEach es X.env := by rfl) : PA X (e :: es) (tLits X.K (d :: ds)) :=
  ⟨fun pos pins s σ H Q I q => (pa_cons he hr hn).run pos pins s σ H Q I fun v H1 e1 d1 => fun vs H2 e2 d2 => q (v :: vs) H2 (e1.trans e2) (.cons (dpEx e2 d1) d2)⟩
theorem pl_lst (h : PA X es (tLits X.K ds)) (hz : ds.length ≤ 1000) : PE X (.List es pos) (tLit X.K (.list ds)) := pe_weak (pe_lstG h) fun σ H Q q => fun vs H1 e1 d1 => ⟨by
  rw [dpAll_len d1]
  exact Nat.le_trans hz (by decide), fun p H2 n2 e2 h2 => q _ H2 (e1.trans e2) (.lst (sqI h2) (dpAllEx e2 d1))⟩
theorem pl_tup {x1 : Nat} (h : PA X es (tLits X.K ds)) (hz : ds.length ≤ 1000) : PE X (.Tuple es x1 pos) (tLit X.K (.tuple ds)) := pe_weak (pe_tupG h) fun σ H Q q => fun vs H1 e1 d1 => ⟨by
  rw [dpAll_len d1]
  exact Nat.le_trans hz (by decide), fun p H2 n2 e2 h2 => q _ H2 (e1.trans e2) (.tup (sqT h2) (dpAllEx e2 d1))⟩
end
end My
set_option Elab.async false
set_option linter.all false
set_option maxRecDepth 100000
set_option maxHeartbeats 4000000
namespace K09
open PySem L2 My
def topS (i : Nat) : Stmt := PySem.Challenge.pw_listwindow_k09_forms_of_clicks_done.main.body.getD i (.Pass ⟨0, 0, 0, 0⟩)
abbrev PR : Program := PySem.Challenge.pw_listwindow_k09_forms_of_clicks_done
abbrev s_init : Stmt := inClass (topS 1) 0
abbrev s_are_keys : Stmt := topS 5
theorem sc_are_keys : FnScope ["sorting", "columns", "column", "sign"] ["sorting"] (defScope s_are_keys) := ⟨rfl, rfl, rfl, by decide +kernel, rfl, by decide +kernel, by decide +kernel⟩
abbrev s_after_click : Stmt := topS 6
theorem sc_after_click : FnScope ["sorting", "column", "key"] ["sorting", "column"] (defScope s_after_click) := ⟨rfl, rfl, rfl, by decide +kernel, rfl, by decide +kernel, by decide +kernel⟩
abbrev s_need_keys : Stmt := topS 8
theorem sc_need_keys : FnScope ["sorting"] ["sorting"] (defScope s_need_keys) := ⟨rfl, rfl, rfl, by decide +kernel, rfl, by decide +kernel, by decide +kernel⟩
abbrev s_after_clicks : Stmt := topS 9
theorem sc_after_clicks : FnScope ["sorting", "clicks", "found", "column"] ["sorting", "clicks"] (defScope s_after_clicks) := ⟨rfl, rfl, rfl, by decide +kernel, rfl, by decide +kernel, by decide +kernel⟩
abbrev s_has_form : Stmt := topS 11
theorem sc_has_form : FnScope ["form", "keys", "bound"] ["form"] (defScope s_has_form) := ⟨rfl, rfl, rfl, by decide +kernel, rfl, by decide +kernel, by decide +kernel⟩
abbrev s_need_form : Stmt := topS 12
theorem sc_need_form : FnScope ["form"] ["form"] (defScope s_need_form) := ⟨rfl, rfl, rfl, by decide +kernel, rfl, by decide +kernel, by decide +kernel⟩
abbrev s_columns_of : Stmt := topS 13
theorem sc_columns_of : FnScope ["keys", "column", "sign"] ["keys"] (defScope s_columns_of) := ⟨rfl, rfl, rfl, by decide +kernel, rfl, by decide +kernel, by decide +kernel⟩
abbrev s_is_left_alone : Stmt := topS 14
theorem sc_is_left_alone : FnScope ["clicks", "at"] ["clicks"] (defScope s_is_left_alone) := ⟨rfl, rfl, rfl, by decide +kernel, rfl, by decide +kernel, by decide +kernel⟩
abbrev s_made_form : Stmt := topS 15
theorem sc_made_form : FnScope ["clicks"] ["clicks"] (defScope s_made_form) := ⟨rfl, rfl, rfl, by decide +kernel, rfl, by decide +kernel, by decide +kernel⟩
abbrev s_form_of : Stmt := topS 16
theorem sc_form_of : FnScope ["clicks", "column"] ["clicks"] (defScope s_form_of) := ⟨rfl, rfl, rfl, by decide +kernel, rfl, by decide +kernel, by decide +kernel⟩
abbrev s_is_form : Stmt := topS 17
theorem sc_is_form : FnScope ["form"] ["form"] (defScope s_is_form) := ⟨rfl, rfl, rfl, by decide +kernel, rfl, by decide +kernel, by decide +kernel⟩
abbrev s_made_of : Stmt := topS 18
theorem sc_made_of : FnScope ["form", "sorting", "keys", "bound", "rest", "key"] ["form", "sorting"] (defScope s_made_of) := ⟨rfl, rfl, rfl, by decide +kernel, rfl, by decide +kernel, by decide +kernel⟩
abbrev s_formed : Stmt := topS 19
theorem sc_formed : FnScope ["form", "sorting"] ["form", "sorting"] (defScope s_formed) := ⟨rfl, rfl, rfl, by decide +kernel, rfl, by decide +kernel, by decide +kernel⟩
abbrev s_alike : Stmt := topS 20
theorem sc_alike : FnScope ["one", "other"] ["one", "other"] (defScope s_alike) := ⟨rfl, rfl, rfl, by decide +kernel, rfl, by decide +kernel, by decide +kernel⟩
abbrev s_first_apart : Stmt := topS 21
theorem sc_first_apart : FnScope ["one", "other", "first", "second"] ["one", "other"] (defScope s_first_apart) := ⟨rfl, rfl, rfl, by decide +kernel, rfl, by decide +kernel, by decide +kernel⟩
abbrev s__law_open : Stmt := topS 23
theorem sc__law_open : FnScope ["_law_script", "_law_k", "_law_cell", "_law_seed"] ["_law_script", "_law_k"] (defScope s__law_open) := ⟨rfl, rfl, rfl, by decide +kernel, rfl, by decide +kernel, by decide +kernel⟩
abbrev s__law_draw : Stmt := topS 24
theorem sc__law_draw : FnScope ["_law_deck", "_law_many", "_law_taken", "_law_stir"] ["_law_deck", "_law_many"] (defScope s__law_draw) := ⟨rfl, rfl, rfl, by decide +kernel, rfl, by decide +kernel, by decide +kernel⟩
abbrev s__law_clicks : Stmt := topS 25
theorem sc__law_clicks : FnScope ["_law_deck", "_law_width", "_law_most", "_law_found", "_law_turn", "_law_column"] ["_law_deck", "_law_width", "_law_most"] (defScope s__law_clicks) := ⟨rfl, rfl, rfl, by decide +kernel, rfl, by decide +kernel, by decide +kernel⟩
abbrev s__law_click : Stmt := topS 26
theorem sc__law_click : FnScope ["_law_keys_here", "_law_column", "_law_key"] ["_law_keys_here", "_law_column"] (defScope s__law_click) := ⟨rfl, rfl, rfl, by decide +kernel, rfl, by decide +kernel, by decide +kernel⟩
abbrev s__law_after : Stmt := topS 27
theorem sc__law_after : FnScope ["_law_keys_here", "_law_clicks_here", "_law_column"] ["_law_keys_here", "_law_clicks_here"] (defScope s__law_after) := ⟨rfl, rfl, rfl, by decide +kernel, rfl, by decide +kernel, by decide +kernel⟩
abbrev s__law_keys : Stmt := topS 28
theorem sc__law_keys : FnScope ["_law_deck", "_law_width", "_law_left", "_law_found", "_law_turn"] ["_law_deck", "_law_width"] (defScope s__law_keys) := ⟨rfl, rfl, rfl, by decide +kernel, rfl, by decide +kernel, by decide +kernel⟩
abbrev s__law_every : Stmt := topS 29
theorem sc__law_every : FnScope ["_law_width", "_law_found", "_law_layer", "_law_turn", "_law_longer", "_law_keys_here", "_law_used", "_law_column", "_law_sign", "_law_one"] ["_law_width"] (defScope s__law_every) := ⟨rfl, rfl, rfl, by decide +kernel, rfl, by decide +kernel, by decide +kernel⟩
abbrev s__law_says : Stmt := topS 30
theorem sc__law_says : FnScope ["_law_found", "_law_due"] ["_law_found", "_law_due"] (defScope s__law_says) := ⟨rfl, rfl, rfl, by decide +kernel, rfl, by decide +kernel, by decide +kernel⟩
abbrev s__law_bound : Stmt := topS 31
theorem sc__law_bound : FnScope ["_law_clicks_here", "_law_others", "_law_again", "_law_k"] ["_law_clicks_here"] (defScope s__law_bound) := ⟨rfl, rfl, rfl, by decide +kernel, rfl, by decide +kernel, by decide +kernel⟩
abbrev s__law_other : Stmt := topS 32
theorem sc__law_other : FnScope ["_law_deck", "_law_width", "_law_clicks_here", "_law_at", "_law_way", "_law_column"] ["_law_deck", "_law_width", "_law_clicks_here"] (defScope s__law_other) := ⟨rfl, rfl, rfl, by decide +kernel, rfl, by decide +kernel, by decide +kernel⟩
abbrev s__law_is_form_right : Stmt := topS 33
theorem sc__law_is_form_right : FnScope ["_law_form", "_law_keys_here", "_law_bound_here", "_law_rows", "_law_thing", "_law_due"] ["_law_form"] (defScope s__law_is_form_right) := ⟨rfl, rfl, rfl, by decide +kernel, rfl, by decide +kernel, by decide +kernel⟩
abbrev s__law_far_right : Stmt := topS 34
theorem sc__law_far_right : FnScope ["_law_deck", "_law_far", "_law_clicks_here", "_law_keys_here", "_law_bound_here", "_law_moved", "_law_other_here", "_law_apart", "_law_told", "_law_sorting", "_law_found", "_law_column", "_law_sign"] ["_law_deck"] (defScope s__law_far_right) := ⟨rfl, rfl, rfl, by decide +kernel, rfl, by decide +kernel, by decide +kernel⟩
abbrev s__law_many_right : Stmt := topS 35
theorem sc__law_many_right : FnScope ["_law_deck", "_law_places", "_law_clicks_here", "_law_form", "_law_keys_here", "_law_turn", "_law_number"] ["_law_deck"] (defScope s__law_many_right) := ⟨rfl, rfl, rfl, by decide +kernel, rfl, by decide +kernel, by decide +kernel⟩
abbrev s__law_alike_right : Stmt := topS 36
theorem sc__law_alike_right : FnScope ["_law_width", "_law_one", "_law_other_here", "_law_apart", "_law_due", "_law_kept", "_law_keys_here"] ["_law_width", "_law_one", "_law_other_here"] (defScope s__law_alike_right) := ⟨rfl, rfl, rfl, by decide +kernel, rfl, by decide +kernel, by decide +kernel⟩
abbrev s__law_right : Stmt := topS 37
theorem sc__law_right : FnScope ["_law_deck", "_law_width", "_law_one", "_law_other_here", "_law_clicks_here", "_law_kept", "_law_form", "_law_every_here", "_law_keys_here", "_law_found", "_law_turn"] ["_law_deck"] (defScope s__law_right) := ⟨rfl, rfl, rfl, by decide +kernel, rfl, by decide +kernel, by decide +kernel⟩
abbrev s_law : Stmt := topS 38
theorem sc_law : FnScope ["_law_script", "_law_k"] ["_law_script"] (defScope s_law) := ⟨rfl, rfl, rfl, by decide +kernel, rfl, by decide +kernel, by decide +kernel⟩
structure Txt (K : PySem.W.Frag) (mg : Str → Option Value) where
  a_are_keys : Addr
  d_are_keys : FuncData
  f_are_keys : Fun K "are_keys" "are_keys" s_are_keys a_are_keys d_are_keys
  g_are_keys : mg "are_keys" = some (.ref a_are_keys)
  a_after_click : Addr
  d_after_click : FuncData
  f_after_click : Fun K "after_click" "after_click" s_after_click a_after_click d_after_click
  g_after_click : mg "after_click" = some (.ref a_after_click)
  a_need_keys : Addr
  d_need_keys : FuncData
  f_need_keys : Fun K "need_keys" "need_keys" s_need_keys a_need_keys d_need_keys
  g_need_keys : mg "need_keys" = some (.ref a_need_keys)
  a_after_clicks : Addr
  d_after_clicks : FuncData
  f_after_clicks : Fun K "after_clicks" "after_clicks" s_after_clicks a_after_clicks d_after_clicks
  g_after_clicks : mg "after_clicks" = some (.ref a_after_clicks)
  a_has_form : Addr
  d_has_form : FuncData
  f_has_form : Fun K "has_form" "has_form" s_has_form a_has_form d_has_form
  g_has_form : mg "has_form" = some (.ref a_has_form)
  a_need_form : Addr
  d_need_form : FuncData
  f_need_form : Fun K "need_form" "need_form" s_need_form a_need_form d_need_form
  g_need_form : mg "need_form" = some (.ref a_need_form)
  a_columns_of : Addr
  d_columns_of : FuncData
  f_columns_of : Fun K "columns_of" "columns_of" s_columns_of a_columns_of d_columns_of
  g_columns_of : mg "columns_of" = some (.ref a_columns_of)
  a_is_left_alone : Addr
  d_is_left_alone : FuncData
  f_is_left_alone : Fun K "is_left_alone" "is_left_alone" s_is_left_alone a_is_left_alone d_is_left_alone
  g_is_left_alone : mg "is_left_alone" = some (.ref a_is_left_alone)
  a_made_form : Addr
  d_made_form : FuncData
  f_made_form : Fun K "made_form" "made_form" s_made_form a_made_form d_made_form
  g_made_form : mg "made_form" = some (.ref a_made_form)
  a_form_of : Addr
  d_form_of : FuncData
  f_form_of : Fun K "form_of" "form_of" s_form_of a_form_of d_form_of
  g_form_of : mg "form_of" = some (.ref a_form_of)
  a_is_form : Addr
  d_is_form : FuncData
  f_is_form : Fun K "is_form" "is_form" s_is_form a_is_form d_is_form
  g_is_form : mg "is_form" = some (.ref a_is_form)
  a_made_of : Addr
  d_made_of : FuncData
  f_made_of : Fun K "made_of" "made_of" s_made_of a_made_of d_made_of
  g_made_of : mg "made_of" = some (.ref a_made_of)
  a_formed : Addr
  d_formed : FuncData
  f_formed : Fun K "formed" "formed" s_formed a_formed d_formed
  g_formed : mg "formed" = some (.ref a_formed)
  a_alike : Addr
  d_alike : FuncData
  f_alike : Fun K "alike" "alike" s_alike a_alike d_alike
  g_alike : mg "alike" = some (.ref a_alike)
  a_first_apart : Addr
  d_first_apart : FuncData
  f_first_apart : Fun K "first_apart" "first_apart" s_first_apart a_first_apart d_first_apart
  g_first_apart : mg "first_apart" = some (.ref a_first_apart)
  a__law_open : Addr
  d__law_open : FuncData
  f__law_open : Fun K "_law_open" "_law_open" s__law_open a__law_open d__law_open
  g__law_open : mg "_law_open" = some (.ref a__law_open)
  a__law_draw : Addr
  d__law_draw : FuncData
  f__law_draw : Fun K "_law_draw" "_law_draw" s__law_draw a__law_draw d__law_draw
  g__law_draw : mg "_law_draw" = some (.ref a__law_draw)
  a__law_clicks : Addr
  d__law_clicks : FuncData
  f__law_clicks : Fun K "_law_clicks" "_law_clicks" s__law_clicks a__law_clicks d__law_clicks
  g__law_clicks : mg "_law_clicks" = some (.ref a__law_clicks)
  a__law_click : Addr
  d__law_click : FuncData
  f__law_click : Fun K "_law_click" "_law_click" s__law_click a__law_click d__law_click
  g__law_click : mg "_law_click" = some (.ref a__law_click)
  a__law_after : Addr
  d__law_after : FuncData
  f__law_after : Fun K "_law_after" "_law_after" s__law_after a__law_after d__law_after
  g__law_after : mg "_law_after" = some (.ref a__law_after)
  a__law_keys : Addr
  d__law_keys : FuncData
  f__law_keys : Fun K "_law_keys" "_law_keys" s__law_keys a__law_keys d__law_keys
  g__law_keys : mg "_law_keys" = some (.ref a__law_keys)
  a__law_every : Addr
  d__law_every : FuncData
  f__law_every : Fun K "_law_every" "_law_every" s__law_every a__law_every d__law_every
  g__law_every : mg "_law_every" = some (.ref a__law_every)
  a__law_says : Addr
  d__law_says : FuncData
  f__law_says : Fun K "_law_says" "_law_says" s__law_says a__law_says d__law_says
  g__law_says : mg "_law_says" = some (.ref a__law_says)
  a__law_bound : Addr
  d__law_bound : FuncData
  f__law_bound : Fun K "_law_bound" "_law_bound" s__law_bound a__law_bound d__law_bound
  g__law_bound : mg "_law_bound" = some (.ref a__law_bound)
  a__law_other : Addr
  d__law_other : FuncData
  f__law_other : Fun K "_law_other" "_law_other" s__law_other a__law_other d__law_other
  g__law_other : mg "_law_other" = some (.ref a__law_other)
  a__law_is_form_right : Addr
  d__law_is_form_right : FuncData
  f__law_is_form_right : Fun K "_law_is_form_right" "_law_is_form_right" s__law_is_form_right a__law_is_form_right d__law_is_form_right
  g__law_is_form_right : mg "_law_is_form_right" = some (.ref a__law_is_form_right)
  a__law_far_right : Addr
  d__law_far_right : FuncData
  f__law_far_right : Fun K "_law_far_right" "_law_far_right" s__law_far_right a__law_far_right d__law_far_right
  g__law_far_right : mg "_law_far_right" = some (.ref a__law_far_right)
  a__law_many_right : Addr
  d__law_many_right : FuncData
  f__law_many_right : Fun K "_law_many_right" "_law_many_right" s__law_many_right a__law_many_right d__law_many_right
  g__law_many_right : mg "_law_many_right" = some (.ref a__law_many_right)
  a__law_alike_right : Addr
  d__law_alike_right : FuncData
  f__law_alike_right : Fun K "_law_alike_right" "_law_alike_right" s__law_alike_right a__law_alike_right d__law_alike_right
  g__law_alike_right : mg "_law_alike_right" = some (.ref a__law_alike_right)
  a__law_right : Addr
  d__law_right : FuncData
  f__law_right : Fun K "_law_right" "_law_right" s__law_right a__law_right d__law_right
  g__law_right : mg "_law_right" = some (.ref a__law_right)
  a_law : Addr
  d_law : FuncData
  f_law : Fun K "law" "law" s_law a_law d_law
  g_law : mg "law" = some (.ref a_law)
  fI : Addr
  cI : Addr
  cdI : Addr
  dD : Addr
  dI : FuncData
  iT : InitT PR K mg s_init "WindowError.__init__" fI cI cdI dD dI
  c_WindowError : Addr
  e_WindowError : ErrC K fI dD c_WindowError
  g_WindowError : mg "WindowError" = some (.ref c_WindowError)
  c_InvalidColumn : Addr
  e_InvalidColumn : ErrC K fI dD c_InvalidColumn
  g_InvalidColumn : mg "InvalidColumn" = some (.ref c_InvalidColumn)
  c_InvalidSorting : Addr
  e_InvalidSorting : ErrC K fI dD c_InvalidSorting
  g_InvalidSorting : mg "InvalidSorting" = some (.ref c_InvalidSorting)
  z_all : mg "all" = none
  z_len : mg "len" = none
  z_set : mg "set" = none
  z_list : mg "list" = none
  z_max : mg "max" = none
  z_int : mg "int" = none
  z_abs : mg "abs" = none
  z_range : mg "range" = none
  z_isinstance : mg "isinstance" = none
  z_bool : mg "bool" = none
  z_repr : mg "repr" = none
  z_min : mg "min" = none
theorem ok_init {w : World} {K : PySem.W.Frag} {mg : Str → Option Value} {base : Heap} (T : Txt K mg) : FnOk PR w K mg base CX0 1 T.fI T.dI ["self", "value"] (spErr K T.fI T.dD) := ok_err T.iT (NdefX.nscope_by (by decide +kernel)) rfl rfl rfl (fun env => rfl)
theorem b_init {K : PySem.W.Frag} {mg : Str → Option Value} (T : Txt K mg) : Binds K T.dI ["self", "value"] [] := by
  obtain ⟨oc, od, kV, doc, pm, an, ct, osl, e, lk⟩ := T.iT.ex
  rw [e]
  exact .all fun us hl => match us, hl with | [_, _], _ => rfl
theorem b_are_keys {K : PySem.W.Frag} {mg : Str → Option Value} (T : Txt K mg) : Binds K T.d_are_keys ["sorting"] [] := T.f_are_keys.binds (ps := ["sorting"]) fun _ _ _ _ _ _ us hl => match us, hl with | [_], _ => rfl
theorem b_after_click {K : PySem.W.Frag} {mg : Str → Option Value} (T : Txt K mg) : Binds K T.d_after_click ["sorting", "column"] [] := T.f_after_click.binds (ps := ["sorting", "column"]) fun _ _ _ _ _ _ us hl => match us, hl with | [_, _], _ => rfl
theorem b_need_keys {K : PySem.W.Frag} {mg : Str → Option Value} (T : Txt K mg) : Binds K T.d_need_keys ["sorting"] [] := T.f_need_keys.binds (ps := ["sorting"]) fun _ _ _ _ _ _ us hl => match us, hl with | [_], _ => rfl
theorem b_after_clicks {K : PySem.W.Frag} {mg : Str → Option Value} (T : Txt K mg) : Binds K T.d_after_clicks ["sorting", "clicks"] [] := T.f_after_clicks.binds (ps := ["sorting", "clicks"]) fun _ _ _ _ _ _ us hl => match us, hl with | [_, _], _ => rfl
theorem b_has_form {K : PySem.W.Frag} {mg : Str → Option Value} (T : Txt K mg) : Binds K T.d_has_form ["form"] [] := T.f_has_form.binds (ps := ["form"]) fun _ _ _ _ _ _ us hl => match us, hl with | [_], _ => rfl
theorem b_need_form {K : PySem.W.Frag} {mg : Str → Option Value} (T : Txt K mg) : Binds K T.d_need_form ["form"] [] := T.f_need_form.binds (ps := ["form"]) fun _ _ _ _ _ _ us hl => match us, hl with | [_], _ => rfl
theorem b_columns_of {K : PySem.W.Frag} {mg : Str → Option Value} (T : Txt K mg) : Binds K T.d_columns_of ["keys"] [] := T.f_columns_of.binds (ps := ["keys"]) fun _ _ _ _ _ _ us hl => match us, hl with | [_], _ => rfl
theorem b_is_left_alone {K : PySem.W.Frag} {mg : Str → Option Value} (T : Txt K mg) : Binds K T.d_is_left_alone ["clicks"] [] := T.f_is_left_alone.binds (ps := ["clicks"]) fun _ _ _ _ _ _ us hl => match us, hl with | [_], _ => rfl
theorem b_made_form {K : PySem.W.Frag} {mg : Str → Option Value} (T : Txt K mg) : Binds K T.d_made_form ["clicks"] [] := T.f_made_form.binds (ps := ["clicks"]) fun _ _ _ _ _ _ us hl => match us, hl with | [_], _ => rfl
theorem b_form_of {K : PySem.W.Frag} {mg : Str → Option Value} (T : Txt K mg) : Binds K T.d_form_of ["clicks"] [] := T.f_form_of.binds (ps := ["clicks"]) fun _ _ _ _ _ _ us hl => match us, hl with | [_], _ => rfl
theorem b_is_form {K : PySem.W.Frag} {mg : Str → Option Value} (T : Txt K mg) : Binds K T.d_is_form ["form"] [] := T.f_is_form.binds (ps := ["form"]) fun _ _ _ _ _ _ us hl => match us, hl with | [_], _ => rfl
theorem b_made_of {K : PySem.W.Frag} {mg : Str → Option Value} (T : Txt K mg) : Binds K T.d_made_of ["form", "sorting"] [] := T.f_made_of.binds (ps := ["form", "sorting"]) fun _ _ _ _ _ _ us hl => match us, hl with | [_, _], _ => rfl
theorem b_formed {K : PySem.W.Frag} {mg : Str → Option Value} (T : Txt K mg) : Binds K T.d_formed ["form", "sorting"] [] := T.f_formed.binds (ps := ["form", "sorting"]) fun _ _ _ _ _ _ us hl => match us, hl with | [_, _], _ => rfl
theorem b_alike {K : PySem.W.Frag} {mg : Str → Option Value} (T : Txt K mg) : Binds K T.d_alike ["one", "other"] [] := T.f_alike.binds (ps := ["one", "other"]) fun _ _ _ _ _ _ us hl => match us, hl with | [_, _], _ => rfl
theorem b_first_apart {K : PySem.W.Frag} {mg : Str → Option Value} (T : Txt K mg) : Binds K T.d_first_apart ["one", "other"] [] := T.f_first_apart.binds (ps := ["one", "other"]) fun _ _ _ _ _ _ us hl => match us, hl with | [_, _], _ => rfl
theorem b__law_open {K : PySem.W.Frag} {mg : Str → Option Value} (T : Txt K mg) : Binds K T.d__law_open ["_law_script", "_law_k"] [] := T.f__law_open.binds (ps := ["_law_script", "_law_k"]) fun _ _ _ _ _ _ us hl => match us, hl with | [_, _], _ => rfl
theorem b__law_draw {K : PySem.W.Frag} {mg : Str → Option Value} (T : Txt K mg) : Binds K T.d__law_draw ["_law_deck", "_law_many"] [] := T.f__law_draw.binds (ps := ["_law_deck", "_law_many"]) fun _ _ _ _ _ _ us hl => match us, hl with | [_, _], _ => rfl
theorem b__law_clicks {K : PySem.W.Frag} {mg : Str → Option Value} (T : Txt K mg) : Binds K T.d__law_clicks ["_law_deck", "_law_width", "_law_most"] [] := T.f__law_clicks.binds (ps := ["_law_deck", "_law_width", "_law_most"]) fun _ _ _ _ _ _ us hl => match us, hl with | [_, _, _], _ => rfl
theorem b__law_click {K : PySem.W.Frag} {mg : Str → Option Value} (T : Txt K mg) : Binds K T.d__law_click ["_law_keys_here", "_law_column"] [] := T.f__law_click.binds (ps := ["_law_keys_here", "_law_column"]) fun _ _ _ _ _ _ us hl => match us, hl with | [_, _], _ => rfl
theorem b__law_after {K : PySem.W.Frag} {mg : Str → Option Value} (T : Txt K mg) : Binds K T.d__law_after ["_law_keys_here", "_law_clicks_here"] [] := T.f__law_after.binds (ps := ["_law_keys_here", "_law_clicks_here"]) fun _ _ _ _ _ _ us hl => match us, hl with | [_, _], _ => rfl
theorem b__law_keys {K : PySem.W.Frag} {mg : Str → Option Value} (T : Txt K mg) : Binds K T.d__law_keys ["_law_deck", "_law_width"] [] := T.f__law_keys.binds (ps := ["_law_deck", "_law_width"]) fun _ _ _ _ _ _ us hl => match us, hl with | [_, _], _ => rfl
theorem b__law_every {K : PySem.W.Frag} {mg : Str → Option Value} (T : Txt K mg) : Binds K T.d__law_every ["_law_width"] [] := T.f__law_every.binds (ps := ["_law_width"]) fun _ _ _ _ _ _ us hl => match us, hl with | [_], _ => rfl
theorem b__law_says {K : PySem.W.Frag} {mg : Str → Option Value} (T : Txt K mg) : Binds K T.d__law_says ["_law_found", "_law_due"] [] := T.f__law_says.binds (ps := ["_law_found", "_law_due"]) fun _ _ _ _ _ _ us hl => match us, hl with | [_, _], _ => rfl
theorem b__law_bound {K : PySem.W.Frag} {mg : Str → Option Value} (T : Txt K mg) : Binds K T.d__law_bound ["_law_clicks_here"] [] := T.f__law_bound.binds (ps := ["_law_clicks_here"]) fun _ _ _ _ _ _ us hl => match us, hl with | [_], _ => rfl
theorem b__law_other {K : PySem.W.Frag} {mg : Str → Option Value} (T : Txt K mg) : Binds K T.d__law_other ["_law_deck", "_law_width", "_law_clicks_here"] [] := T.f__law_other.binds (ps := ["_law_deck", "_law_width", "_law_clicks_here"]) fun _ _ _ _ _ _ us hl => match us, hl with | [_, _, _], _ => rfl
theorem b__law_is_form_right {K : PySem.W.Frag} {mg : Str → Option Value} (T : Txt K mg) : Binds K T.d__law_is_form_right ["_law_form"] [] := T.f__law_is_form_right.binds (ps := ["_law_form"]) fun _ _ _ _ _ _ us hl => match us, hl with | [_], _ => rfl
theorem b__law_far_right {K : PySem.W.Frag} {mg : Str → Option Value} (T : Txt K mg) : Binds K T.d__law_far_right ["_law_deck"] [] := T.f__law_far_right.binds (ps := ["_law_deck"]) fun _ _ _ _ _ _ us hl => match us, hl with | [_], _ => rfl
theorem b__law_many_right {K : PySem.W.Frag} {mg : Str → Option Value} (T : Txt K mg) : Binds K T.d__law_many_right ["_law_deck"] [] := T.f__law_many_right.binds (ps := ["_law_deck"]) fun _ _ _ _ _ _ us hl => match us, hl with | [_], _ => rfl
theorem b__law_alike_right {K : PySem.W.Frag} {mg : Str → Option Value} (T : Txt K mg) : Binds K T.d__law_alike_right ["_law_width", "_law_one", "_law_other_here"] [] := T.f__law_alike_right.binds (ps := ["_law_width", "_law_one", "_law_other_here"]) fun _ _ _ _ _ _ us hl => match us, hl with | [_, _, _], _ => rfl
theorem b__law_right {K : PySem.W.Frag} {mg : Str → Option Value} (T : Txt K mg) : Binds K T.d__law_right ["_law_deck"] [] := T.f__law_right.binds (ps := ["_law_deck"]) fun _ _ _ _ _ _ us hl => match us, hl with | [_], _ => rfl
theorem b_law {K : PySem.W.Frag} {mg : Str → Option Value} (T : Txt K mg) : Binds K T.d_law ["_law_script"] [] := T.f_law.binds (ps := ["_law_script"]) fun _ _ _ _ _ _ us hl => match us, hl with | [_], _ => rfl
theorem kb_is_form_0_form {K : PySem.W.Frag} {mg : Str → Option Value} (T : Txt K mg) : KBinds K T.d_is_form ["form"] ["form"] (kg 0 1 [0]) (kg 0 1 [0]) := kbinds 0 1 [0] T.f_is_form (by decide) fun _ _ _ _ _ _ us ws h1 h2 => match us, h1, ws, h2 with | [], _, [_], _ => rfl
theorem kb_first_apart_0_other_one {K : PySem.W.Frag} {mg : Str → Option Value} (T : Txt K mg) : KBinds K T.d_first_apart ["one", "other"] ["other", "one"] (kg 0 2 [1, 0]) (kg 0 2 [1, 0]) := kbinds 0 2 [1, 0] T.f_first_apart (by decide) fun _ _ _ _ _ _ us ws h1 h2 => match us, h1, ws, h2 with | [], _, [_, _], _ => rfl
theorem kb_alike_0_other_one {K : PySem.W.Frag} {mg : Str → Option Value} (T : Txt K mg) : KBinds K T.d_alike ["one", "other"] ["other", "one"] (kg 0 2 [1, 0]) (kg 0 2 [1, 0]) := kbinds 0 2 [1, 0] T.f_alike (by decide) fun _ _ _ _ _ _ us ws h1 h2 => match us, h1, ws, h2 with | [], _, [_, _], _ => rfl
theorem kb_form_of_0_clicks {K : PySem.W.Frag} {mg : Str → Option Value} (T : Txt K mg) : KBinds K T.d_form_of ["clicks"] ["clicks"] (kg 0 1 [0]) (kg 0 1 [0]) := kbinds 0 1 [0] T.f_form_of (by decide) fun _ _ _ _ _ _ us ws h1 h2 => match us, h1, ws, h2 with | [], _, [_], _ => rfl
theorem kb_formed_0_sorting_form {K : PySem.W.Frag} {mg : Str → Option Value} (T : Txt K mg) : KBinds K T.d_formed ["form", "sorting"] ["sorting", "form"] (kg 0 2 [1, 0]) (kg 0 2 [1, 0]) := kbinds 0 2 [1, 0] T.f_formed (by decide) fun _ _ _ _ _ _ us ws h1 h2 => match us, h1, ws, h2 with | [], _, [_, _], _ => rfl
end K09
set_option Elab.async false
set_option linter.all false
set_option maxRecDepth 100000
set_option maxHeartbeats 4000000
/-! Clicks on heads, their forms: no program in sight. -/
namespace K09
abbrev Ky := Int × Int
def cols (ks : List Ky) : List Int := ks.map (·.1)
def click (ks : List Ky) (c : Int) : List Ky := match ks with
  | k :: r => if k.1 = c then (c, -k.2) :: r else (c, 1) :: (k :: r).filter (fun x => !decide (x.1 = c))
  | [] => [(c, 1)]
def afterL (s : List Ky) (cs : List Int) : List Ky := cs.foldl click s
def leftAlone (cs : List Int) : Bool := match cs with
  | [] => false
  | c0 :: r => !decide (c0 ∈ (c0 :: r).dropWhile (fun c => decide (c = c0)))
abbrev Fm := List Ky × Bool
def formL (cs : List Int) : Fm := (afterL [] cs, leftAlone cs)
def okK (k : Ky) : Bool := decide (0 ≤ k.1) && decide (k.2 ∈ [1, (-1 : Int)])
def areKeys (ks : List Ky) : Bool := decide ((cols ks).Nodup) && ks.all okK
def hasForm (f : Fm) : Bool := areKeys f.1 && (decide (f.2 = decide (f.1 ≠ [])) || decide (f.1.length > 1))
def lastC (ks : List Ky) : Int := (ks.getLast?.getD (0, 0)).1
def restL (ks s : List Ky) : List Ky := s.filter fun k => !decide (k.1 ∈ cols ks)
def flipL (ks : List Ky) : List Ky := match ks.getLast? with
  | none => []
  | some k => ks.dropLast ++ [(k.1, -k.2)]
def fl (b : Bool) (ks : List Ky) : List Ky := if b = true then flipL ks else ks
def hit (f : Fm) (s : List Ky) : Bool := f.2 && decide (s.head? = some (lastC f.1, 1))
def madeOf (f : Fm) (s : List Ky) : List Ky := fl (hit f s) f.1 ++ restL f.1 s
/-- valid keys -/
structure Vd (ks : List Ky) : Prop where
  nd : (cols ks).Nodup
  sg : ∀ k ∈ ks, k.2 = 1 ∨ k.2 = -1
theorem Vd.nil : Vd [] := ⟨List.nodup_nil, fun k h => by cases h⟩
theorem afterL_snoc (s : List Ky) (cs : List Int) (c : Int) : afterL s (cs ++ [c]) = click (afterL s cs) c := by
  unfold afterL
  rw [List.foldl_append]
  rfl
theorem filter_ne {ks : List Ky} {c : Int} (h : c ∉ cols ks) : ks.filter (fun x => !decide (x.1 = c)) = ks := by
  rw [List.filter_eq_self]
  intro k hk
  have : k.1 ≠ c := fun e => h (List.mem_map.mpr ⟨k, hk, e⟩)
  simp [this]
theorem cols_filter (ks : List Ky) (c : Int) : cols (ks.filter (fun x => !decide (x.1 = c))) = (cols ks).filter (fun x => !decide (x = c)) := by
  unfold cols
  rw [List.filter_map]
  rfl
theorem Vd.click {ks : List Ky} (h : Vd ks) (c : Int) : Vd (click ks c) := by
  cases ks with
  | nil => exact ⟨by simp [K09.click, cols], fun k hk => by rw [List.mem_singleton.mp hk]; exact .inl rfl⟩
  | cons k r =>
    show Vd (if k.1 = c then (c, -k.2) :: r else (c, 1) :: (k :: r).filter (fun x => !decide (x.1 = c)))
    by_cases e : k.1 = c
    · rw [if_pos e]
      refine ⟨?_, fun x hx => ?_⟩
      · have := h.nd
        simpa [cols, e] using this
      · rcases List.mem_cons.mp hx with z | z
        · rw [z]
          rcases h.sg k List.mem_cons_self with y | y <;> simp [y]
        · exact h.sg x (List.mem_cons_of_mem _ z)
    · rw [if_neg e]
      refine ⟨?_, fun x hx => ?_⟩
      · show (c :: cols ((k :: r).filter _)).Nodup
        rw [cols_filter, List.nodup_cons]
        exact ⟨by simp, h.nd.filter _⟩
      · rcases List.mem_cons.mp hx with z | z
        · rw [z]; exact .inl rfl
        · exact h.sg x (List.mem_filter.mp z).1
theorem Vd.after : ∀ {cs : List Int} {s : List Ky}, Vd s → Vd (afterL s cs)
  | [], _, h => h
  | c :: cs, _, h => Vd.after (cs := cs) (h.click c)
theorem click_ne (ks : List Ky) (c : Int) : click ks c ≠ [] := by
  cases ks with
  | nil => simp [click]
  | cons k r =>
    show (if k.1 = c then (c, -k.2) :: r else _) ≠ []
    split <;> simp
theorem click_cols {ks : List Ky} {c x : Int} : x ∈ cols (click ks c) ↔ x = c ∨ x ∈ cols ks := by
  cases ks with
  | nil => simp [click, cols]
  | cons k r =>
    show x ∈ cols (if k.1 = c then (c, -k.2) :: r else (c, 1) :: (k :: r).filter (fun y => !decide (y.1 = c))) ↔ _
    by_cases e : k.1 = c
    · rw [if_pos e]
      simp [cols, e]
    · rw [if_neg e]
      show x ∈ c :: cols ((k :: r).filter _) ↔ _
      rw [cols_filter, List.mem_cons, List.mem_filter]
      by_cases z : x = c <;> simp [z]
theorem after_cols : ∀ {cs : List Int} {s : List Ky} {x : Int}, x ∈ cols (afterL s cs) ↔ x ∈ cs ∨ x ∈ cols s
  | [], s, x => by simp [afterL]
  | c :: cs, s, x => by
    show x ∈ cols (afterL (click s c) cs) ↔ _
    rw [after_cols (cs := cs), click_cols, List.mem_cons]
    constructor
    · rintro (h | h | h)
      · exact .inl (.inr h)
      · exact .inl (.inl h)
      · exact .inr h
    · rintro ((h | h) | h)
      · exact .inr (.inl h)
      · exact .inl h
      · exact .inr (.inr h)
/-! a click on keys whose last one may be turned, and the rest behind -/
theorem rest_click {ks s : List Ky} {c : Int} : restL (click ks c) s = (restL ks s).filter (fun x => !decide (x.1 = c)) := by
  unfold restL
  rw [List.filter_filter]
  refine List.filter_congr fun k _ => ?_
  rw [Bool.eq_iff_iff]
  simp only [Bool.not_eq_true', decide_eq_false_iff_not, Bool.and_eq_true, click_cols, not_or]
theorem getLast_cons {k : Ky} {r : List Ky} (h : r ≠ []) : (k :: r).getLast? = r.getLast? := by
  cases r with
  | nil => exact absurd rfl h
  | cons x r => rfl
theorem flip_cons {k : Ky} {r : List Ky} (h : r ≠ []) : flipL (k :: r) = k :: flipL r := by
  unfold flipL
  rw [getLast_cons h]
  cases r with
  | nil => exact absurd rfl h
  | cons x r =>
    cases z : (x :: r).getLast? with
    | none => simp at z
    | some y => rfl
theorem flip_snoc (ks : List Ky) (k : Ky) : flipL (ks ++ [k]) = ks ++ [(k.1, -k.2)] := by
  unfold flipL
  rw [List.getLast?_concat, List.dropLast_concat]
theorem last_snoc (ks : List Ky) (k : Ky) : lastC (ks ++ [k]) = k.1 := by
  unfold lastC
  rw [List.getLast?_concat]
  rfl
theorem snoc_of {ks : List Ky} (h : ks ≠ []) : ∃ l k, ks = l ++ [k] := ⟨_, _, (List.dropLast_concat_getLast h).symm⟩
/-- the step of a form -/
def keeps (ks : List Ky) (c : Int) : Bool := decide (ks.length = 1) || !decide (c = lastC ks)
theorem click_fl {ks s : List Ky} {f : Bool} {c : Int} (hk : Vd ks) (ne : ks ≠ []) : click (fl f ks ++ restL ks s) c = fl (f && keeps ks c) (click ks c) ++ restL (click ks c) s := by
  rw [rest_click]
  obtain ⟨l, k, rfl⟩ := snoc_of ne
  have nd := hk.nd
  have nr : ∀ x ∈ restL (l ++ [k]) s, x.1 ∉ cols (l ++ [k]) := fun x hx => by
    have := (List.mem_filter.mp hx).2
    simpa using this
  generalize restL (l ++ [k]) s = R at nr
  have kl : k.1 ∉ cols l := by
    have : (cols l ++ [k.1]).Nodup := by simpa [cols] using nd
    exact fun h => (List.nodup_append.mp this).2.2 _ h _ (List.mem_singleton.mpr rfl) rfl
  have Rc : ∀ x ∈ R, x.1 = c → c ∉ cols (l ++ [k]) := fun x hx e => e ▸ nr x hx
  have Rf : c ∈ cols (l ++ [k]) → R.filter (fun x => !decide (x.1 = c)) = R := fun h => by
    rw [List.filter_eq_self]
    intro x hx
    have : x.1 ≠ c := fun e => Rc x hx e h
    simp [this]
  cases l with
  | nil =>
    have kp : keeps ([] ++ [k]) c = true := rfl
    rw [kp, Bool.and_true]
    have ef : fl f ([] ++ [k]) = [if f = true then (k.1, -k.2) else k] := by
      unfold fl
      rw [flip_snoc]
      cases f <;> rfl
    rw [ef]
    show click ((if f = true then (k.1, -k.2) else k) :: R) c = fl f (click [k] c) ++ _
    have k1 : (if f = true then (k.1, -k.2) else k).1 = k.1 := by cases f <;> rfl
    by_cases e : k.1 = c
    · have Rf := Rf (by simp [cols, e])
      show (if (if f = true then (k.1, -k.2) else k).1 = c then _ else _) = fl f (if k.1 = c then [(c, -k.2)] else _) ++ _
      rw [k1, if_pos e, if_pos e, Rf]
      have : fl f [(c, -k.2)] = [if f = true then (c, k.2) else (c, -k.2)] := by
        unfold fl
        rw [show [(c, -k.2)] = [] ++ [(c, -k.2)] from rfl, flip_snoc]
        cases f <;> simp
      rw [this]
      cases f <;> simp
    · show (if (if f = true then (k.1, -k.2) else k).1 = c then _ else _) = fl f (if k.1 = c then _ else (c, 1) :: [k].filter _) ++ _
      rw [k1, if_neg e, if_neg e, List.filter_cons, k1]
      have d : (!decide (k.1 = c)) = true := by simp [e]
      have f1 : [k].filter (fun x => !decide (x.1 = c)) = [k] := by rw [List.filter_cons, d]; rfl
      rw [f1, if_pos d]
      have : fl f [(c, 1), k] = [(c, 1), if f = true then (k.1, -k.2) else k] := by
        unfold fl
        rw [show [(c, 1), k] = [(c, 1)] ++ [k] from rfl, flip_snoc]
        cases f <;> rfl
      rw [this]
      rfl
  | cons k0 l =>
    have ef : fl f (k0 :: l ++ [k]) = k0 :: l ++ [if f = true then (k.1, -k.2) else k] := by
      unfold fl
      rw [flip_snoc]
      cases f <;> rfl
    rw [ef]
    have k0k : k0.1 ≠ k.1 := fun e => kl (by simp [cols, e])
    by_cases e : k0.1 = c
    · have Rf := Rf (by simp [cols, e])
      have kp : keeps (k0 :: l ++ [k]) c = true := by
        unfold keeps
        rw [last_snoc]
        have : ¬ c = k.1 := fun z => k0k (e.trans z)
        simp [this]
      rw [kp, Bool.and_true]
      show (if k0.1 = c then (c, -k0.2) :: (l ++ [if f = true then (k.1, -k.2) else k] ++ R) else _) = fl f (if k0.1 = c then (c, -k0.2) :: (l ++ [k]) else _) ++ _
      rw [if_pos e, if_pos e, Rf]
      have : fl f ((c, -k0.2) :: (l ++ [k])) = (c, -k0.2) :: (l ++ [if f = true then (k.1, -k.2) else k]) := by
        unfold fl
        rw [show (c, -k0.2) :: (l ++ [k]) = ((c, -k0.2) :: l) ++ [k] from rfl, flip_snoc]
        cases f <;> rfl
      rw [this]
      rfl
    · show (if k0.1 = c then _ else (c, 1) :: (k0 :: l ++ [if f = true then (k.1, -k.2) else k] ++ R).filter _) = fl _ (if k0.1 = c then _ else (c, 1) :: (k0 :: l ++ [k]).filter _) ++ _
      rw [if_neg e, if_neg e, List.filter_append, List.filter_append]
      by_cases z : c = k.1
      · have kp : keeps (k0 :: l ++ [k]) c = false := by
          unfold keeps
          rw [last_snoc]
          simp [z]
        rw [kp, Bool.and_false]
        have f2 : [if f = true then (k.1, -k.2) else k].filter (fun x => !decide (x.1 = c)) = [] := by
          cases f <;> simp [z]
        have f3 : (k0 :: l ++ [k]).filter (fun x => !decide (x.1 = c)) = (k0 :: l).filter (fun x => !decide (x.1 = c)) := by
          rw [List.filter_append]
          simp [z]
        rw [f2, f3, List.append_nil]
        rfl
      · have kp : keeps (k0 :: l ++ [k]) c = true := by
          unfold keeps
          rw [last_snoc]
          simp [z]
        rw [kp, Bool.and_true]
        have zz : ¬ k.1 = c := fun y => z y.symm
        have f2 : [if f = true then (k.1, -k.2) else k].filter (fun x => !decide (x.1 = c)) = [if f = true then (k.1, -k.2) else k] := by
          cases f <;> simp [zz]
        have f3 : (k0 :: l ++ [k]).filter (fun x => !decide (x.1 = c)) = (k0 :: l).filter (fun x => !decide (x.1 = c)) ++ [k] := by
          rw [List.filter_append]
          simp [zz]
        rw [f2, f3]
        have : fl f ((c, 1) :: ((k0 :: l).filter (fun x => !decide (x.1 = c)) ++ [k])) = (c, 1) :: ((k0 :: l).filter (fun x => !decide (x.1 = c)) ++ [if f = true then (k.1, -k.2) else k]) := by
          unfold fl
          rw [show (c, 1) :: ((k0 :: l).filter (fun x => !decide (x.1 = c)) ++ [k]) = ((c, 1) :: (k0 :: l).filter (fun x => !decide (x.1 = c))) ++ [k] from rfl, flip_snoc]
          cases f <;> rfl
        rw [this]
        simp
end K09
set_option Elab.async false
set_option linter.all false
set_option maxRecDepth 100000
set_option maxHeartbeats 4000000
namespace K09
/-! what stays of the first click -/
theorem alone_snoc {c0 : Int} {r : List Int} {c : Int} : leftAlone (c0 :: r ++ [c]) = (leftAlone (c0 :: r) && (decide (∀ x ∈ r, x = c0) || !decide (c = c0))) := by
  have key : ∀ r : List Int, (c0 ∈ (r ++ [c]).dropWhile (fun x => decide (x = c0))) ↔ (c0 ∈ r.dropWhile (fun x => decide (x = c0)) ∨ (¬ (∀ x ∈ r, x = c0) ∧ c = c0)) := fun r => by
    induction r with
    | nil =>
      rw [List.nil_append, List.dropWhile_cons]
      by_cases e : c = c0
      · rw [if_pos (decide_eq_true e)]
        simp
      · rw [if_neg (by simp [e])]
        simp [e, Ne.symm e]
    | cons x r ih =>
      rw [List.cons_append, List.dropWhile_cons, List.dropWhile_cons]
      by_cases e : x = c0
      · rw [if_pos (decide_eq_true e), if_pos (decide_eq_true e), ih]
        simp [e]
      · rw [if_neg (by simp [e]), if_neg (by simp [e])]
        have ex : ¬ c0 = x := fun z => e z.symm
        simp only [List.mem_cons, List.mem_append, List.forall_mem_cons, e, false_and, not_false_iff, true_and, ex, false_or]
        simp [eq_comm]
        constructor
        · rintro (h | h)
          · exact .inl h
          · exact .inr ⟨.inl ex, h⟩
        · rintro (h | ⟨_, h⟩)
          · exact .inl h
          · exact .inr h
  show (!decide (c0 ∈ (c0 :: (r ++ [c])).dropWhile _)) = ((!decide (c0 ∈ (c0 :: r).dropWhile _)) && _)
  rw [List.dropWhile_cons, if_pos (decide_eq_true rfl), List.dropWhile_cons, if_pos (decide_eq_true rfl), Bool.eq_iff_iff]
  simp only [Bool.not_eq_true', decide_eq_false_iff_not, Bool.and_eq_true, Bool.or_eq_true, decide_eq_true_eq, key]
  constructor
  · intro h
    refine ⟨fun z => h (.inl z), ?_⟩
    by_cases a : ∀ x ∈ r, x = c0
    · exact .inl a
    · exact .inr fun z => h (.inr ⟨a, z⟩)
  · rintro ⟨h1, h2⟩ (z | ⟨z1, z2⟩)
    · exact h1 z
    · exact h2.elim z1 (fun y => y z2)
/-- of clicks that begin with c0 -/
structure Frm (c0 : Int) (r : List Int) : Prop where
  one : (afterL [] (c0 :: r)).length = 1 ↔ ∀ x ∈ r, x = c0
  last : leftAlone (c0 :: r) = true → lastC (afterL [] (c0 :: r)) = c0
  hit : ∀ s, Vd s → afterL s (c0 :: r) = fl (leftAlone (c0 :: r) && decide (s.head? = some (c0, 1))) (afterL [] (c0 :: r)) ++ restL (afterL [] (c0 :: r)) s
theorem vk_after (cs : List Int) : Vd (afterL [] cs) := Vd.after Vd.nil
theorem after_ne (c0 : Int) (r : List Int) : afterL [] (c0 :: r) ≠ [] := by
  have : c0 ∈ cols (afterL [] (c0 :: r)) := after_cols.mpr (.inl List.mem_cons_self)
  intro z
  rw [z] at this
  cases this
theorem first_click {s : List Ky} (h : Vd s) (c : Int) : click s c = fl (decide (s.head? = some (c, 1))) [(c, 1)] ++ restL [(c, 1)] s := by
  have e2 : ∀ s : List Ky, restL [(c, 1)] s = s.filter (fun x => !decide (x.1 = c)) := fun s => by
    unfold restL cols
    refine List.filter_congr fun k _ => ?_
    simp
  have f1 : fl true [(c, 1)] = [(c, -1)] := rfl
  have f0 : fl false [(c, 1)] = [(c, 1)] := rfl
  cases s with
  | nil => rfl
  | cons k r =>
    obtain ⟨a, σ⟩ := k
    have nd := h.nd
    have sg := h.sg (a, σ) List.mem_cons_self
    rw [e2]
    show (if a = c then (c, -σ) :: r else (c, 1) :: ((a, σ) :: r).filter _) = _
    by_cases e : a = c
    · subst e
      have na : a ∉ cols r := by
        have : (a :: cols r).Nodup := nd
        exact (List.nodup_cons.mp this).1
      have fr : ((a, σ) :: r).filter (fun x => !decide (x.1 = a)) = r := by
        rw [List.filter_cons]
        simp only [decide_true, Bool.not_true]
        exact filter_ne na
      rw [if_pos rfl, fr]
      rcases sg with z | z
      · have z : σ = 1 := z
        subst z
        have : decide (((a, (1 : Int)) :: r).head? = some (a, 1)) = true := decide_eq_true rfl
        rw [this, f1]
        rfl
      · have z : σ = -1 := z
        subst z
        have : decide (((a, (-1 : Int)) :: r).head? = some (a, 1)) = false := decide_eq_false (by simp)
        rw [this, f0]
        rfl
    · rw [if_neg e]
      have : decide (((a, σ) :: r).head? = some (c, 1)) = false := decide_eq_false (by simp [e])
      rw [this, f0]
      rfl
theorem frm (c0 : Int) (r : List Int) : Frm c0 r := by
  rw [← List.reverse_reverse r]
  generalize r.reverse = l
  induction l with
  | nil =>
    refine ⟨by simp [afterL, click], fun _ => rfl, fun s hs => ?_⟩
    have : leftAlone (c0 :: ([] : List Int).reverse) = true := by simp [leftAlone]
    rw [this, Bool.true_and]
    exact first_click hs c0
  | cons c l ih =>
    rw [List.reverse_cons]
    generalize l.reverse = r at ih ⊢
    obtain ⟨i1, i2, i3⟩ := ih
    have as : ∀ s, afterL s (c0 :: (r ++ [c])) = click (afterL s (c0 :: r)) c := fun s => afterL_snoc s (c0 :: r) c
    have ne := after_ne c0 r
    have vk := vk_after (c0 :: r)
    have la : leftAlone (c0 :: (r ++ [c])) = (leftAlone (c0 :: r) && (decide (∀ x ∈ r, x = c0) || !decide (c = c0))) := alone_snoc
    obtain ⟨ks, hk⟩ : ∃ ks, ks = afterL [] (c0 :: r) := ⟨_, rfl⟩
    have as0 : afterL [] (c0 :: (r ++ [c])) = click ks c := by rw [as, hk]
    rw [← hk] at i1 i2 i3 ne vk
    have c0k : c0 ∈ cols ks := by
      rw [hk]
      exact after_cols.mpr (.inl List.mem_cons_self)
    -- all the same: one key
    have hlen : (click ks c).length = 1 ↔ ks.length = 1 ∧ c = c0 := by
      obtain ⟨k, t, rfl⟩ := List.exists_cons_of_ne_nil ne
      have cl : click (k :: t) c = if k.1 = c then (c, -k.2) :: t else (c, 1) :: (k :: t).filter (fun x => !decide (x.1 = c)) := rfl
      rw [cl]
      by_cases e : k.1 = c
      · rw [if_pos e]
        constructor
        · intro h
          have : t = [] := List.eq_nil_of_length_eq_zero (by simpa using h)
          subst this
          have : c0 = k.1 := by simpa [cols] using c0k
          exact ⟨rfl, by rw [this, e]⟩
        · rintro ⟨h, _⟩
          simpa using h
      · rw [if_neg e]
        have : k ∈ (k :: t).filter (fun x => !decide (x.1 = c)) := List.mem_filter.mpr ⟨List.mem_cons_self, by simp [e]⟩
        have := List.length_pos_of_mem this
        constructor
        · intro h
          have h' : ((k :: t).filter (fun x => !decide (x.1 = c))).length + 1 = 1 := h
          exfalso
          omega
        · rintro ⟨h, hc⟩
          have : t = [] := List.eq_nil_of_length_eq_zero (by simpa using h)
          subst this
          have : c0 = k.1 := by simpa [cols] using c0k
          exact absurd (this ▸ hc.symm) e
    have one' : (click ks c).length = 1 ↔ ∀ x ∈ r ++ [c], x = c0 := by
      rw [hlen, i1]
      simp [or_imp, forall_and]
    have kp : (leftAlone (c0 :: r) && keeps ks c) = leftAlone (c0 :: (r ++ [c])) := by
      rw [la]
      cases z : leftAlone (c0 :: r) with
      | false => rfl
      | true =>
        rw [Bool.true_and, Bool.true_and]
        unfold keeps
        rw [i2 z]
        congr 1
        exact decide_eq_decide.mpr i1
    refine ⟨by rw [as0]; exact one', fun h => ?_, fun s hs => ?_⟩
    · rw [as0]
      rw [la, Bool.and_eq_true] at h
      have l0 := i2 h.1
      obtain ⟨l, k, rfl⟩ := snoc_of ne
      rw [last_snoc] at l0
      cases l with
      | nil =>
        show lastC (if k.1 = c then [(c, -k.2)] else (c, 1) :: [k].filter (fun x => !decide (x.1 = c))) = c0
        by_cases e : k.1 = c
        · rw [if_pos e]
          exact e.symm.trans l0
        · rw [if_neg e]
          have : [k].filter (fun x => !decide (x.1 = c)) = [k] := by simp [e]
          rw [this]
          exact l0
      | cons k0 l =>
        have hl : ¬ (k0 :: l ++ [k]).length = 1 := by simp
        have nall : ¬ ∀ x ∈ r, x = c0 := fun z => hl (i1.mpr z)
        have cne : c ≠ c0 := by
          rcases (Bool.or_eq_true _ _).mp h.2 with z | z
          · exact absurd (of_decide_eq_true z) nall
          · simpa using z
        show lastC (if k0.1 = c then (c, -k0.2) :: (l ++ [k]) else (c, 1) :: (k0 :: l ++ [k]).filter (fun x => !decide (x.1 = c))) = c0
        by_cases e : k0.1 = c
        · rw [if_pos e, show (c, -k0.2) :: (l ++ [k]) = ((c, -k0.2) :: l) ++ [k] from rfl, last_snoc]
          exact l0
        · rw [if_neg e, List.filter_append]
          have : [k].filter (fun x => !decide (x.1 = c)) = [k] := by
            have : ¬ k.1 = c := fun z => cne (z.symm.trans l0)
            simp [this]
          rw [this, show (c, (1 : Int)) :: ((k0 :: l).filter (fun x => !decide (x.1 = c)) ++ [k]) = ((c, (1 : Int)) :: (k0 :: l).filter (fun x => !decide (x.1 = c))) ++ [k] from rfl, last_snoc]
          exact l0
    · rw [as0, as s, i3 s hs, click_fl vk ne]
      congr 2
      rw [← kp]
      cases leftAlone (c0 :: r) <;> cases keeps ks c <;> cases decide (s.head? = some (c0, 1)) <;> rfl
/-- the form makes of every sorting what the clicks make -/
theorem made_after (cs : List Int) {s : List Ky} (hs : Vd s) : madeOf (formL cs) s = afterL s cs := by
  cases cs with
  | nil =>
    show fl (hit ([], false) s) [] ++ restL [] s = s
    unfold restL cols hit fl
    simp
  | cons c0 r =>
    have f := frm c0 r
    rw [f.hit s hs]
    unfold madeOf formL hit
    show fl (leftAlone (c0 :: r) && decide (s.head? = some (lastC (afterL [] (c0 :: r)), 1))) _ ++ _ = _
    cases z : leftAlone (c0 :: r) with
    | false => rfl
    | true => rw [f.last z]
theorem form_nil {cs : List Int} (h : (formL cs).1 = []) : formL cs = ([], false) := by
  cases cs with
  | nil => rfl
  | cons c0 r => exact absurd h (after_ne c0 r)
theorem areKeys_of {ks : List Ky} (h : Vd ks) (h0 : ∀ x ∈ cols ks, 0 ≤ x) : areKeys ks = true := by
  unfold areKeys
  rw [Bool.and_eq_true, decide_eq_true_eq, List.all_eq_true]
  refine ⟨h.nd, fun k hk => ?_⟩
  unfold okK
  rw [Bool.and_eq_true, decide_eq_true_eq, decide_eq_true_eq]
  refine ⟨h0 _ (List.mem_map.mpr ⟨k, hk, rfl⟩), ?_⟩
  rcases h.sg k hk with z | z <;> simp [z]
theorem hasForm_of {cs : List Int} (h0 : ∀ c ∈ cs, 0 ≤ c) : hasForm (formL cs) = true := by
  have ak : areKeys (afterL [] cs) = true := areKeys_of (vk_after cs) fun x hx => by
    rcases after_cols.mp hx with z | z
    · exact h0 x z
    · cases z
  unfold hasForm
  show (areKeys (afterL [] cs) && _) = true
  rw [ak, Bool.true_and, Bool.or_eq_true, decide_eq_true_eq, decide_eq_true_eq]
  cases cs with
  | nil => exact .inl rfl
  | cons c0 r =>
    have ne := after_ne c0 r
    have f := frm c0 r
    by_cases z : (afterL [] (c0 :: r)).length = 1
    · left
      have all := f.one.mp z
      have : leftAlone (c0 :: r) = true := by
        show (!decide (c0 ∈ (c0 :: r).dropWhile _)) = true
        have dw : ∀ l : List Int, (∀ x ∈ l, x = c0) → l.dropWhile (fun c => decide (c = c0)) = [] := fun l => by
          induction l with
          | nil => intro _; rfl
          | cons x l ih =>
            intro h
            rw [List.dropWhile_cons, if_pos (decide_eq_true (h x List.mem_cons_self))]
            exact ih fun y hy => h y (List.mem_cons_of_mem _ hy)
        rw [dw _ (fun x hx => by
          rcases List.mem_cons.mp hx with e | e
          · exact e
          · exact all x e)]
        rfl
      show leftAlone (c0 :: r) = decide (afterL [] (c0 :: r) ≠ [])
      rw [this, decide_eq_true ne]
    · right
      have := List.length_pos_iff.mpr ne
      show (afterL [] (c0 :: r)).length > 1
      omega
/-! the law's own bound -/
def othersL (cs : List Int) : List Int := (List.range cs.length).filterMap fun i => if cs.getD i 0 ≠ cs.getD 0 0 then some ((i : Nat) : Int) else none
def againL (cs : List Int) : List Int := (List.range cs.length).filterMap fun i => if othersL cs ≠ [] ∧ ((i : Nat) : Int) > (othersL cs).headD 0 ∧ cs.getD i 0 = cs.getD 0 0 then some ((i : Nat) : Int) else none
/-! what parts two forms -/
theorem made_diff {ks s : List Ky} (hk : Vd ks) (ne : ks ≠ []) : madeOf (ks, true) s = madeOf (ks, false) s ↔ s.head? ≠ some (lastC ks, 1) := by
  unfold madeOf hit
  show fl (true && decide (s.head? = some (lastC ks, 1))) ks ++ restL ks s = fl (false && _) ks ++ restL ks s ↔ _
  rw [Bool.true_and, Bool.false_and]
  by_cases z : s.head? = some (lastC ks, 1)
  · rw [decide_eq_true z]
    simp only [z, ne_eq, not_true, iff_false]
    intro e
    have e := List.append_cancel_right e
    obtain ⟨l, k, rfl⟩ := snoc_of ne
    have : l ++ [(k.1, -k.2)] = l ++ [k] := by
      have := e
      unfold fl at this
      rw [if_pos rfl, if_neg (by simp), flip_snoc] at this
      exact this
    have := List.append_cancel_left this
    have : -k.2 = k.2 := congrArg (fun x : List Ky => (x.head?.getD (0, 0)).2) this
    rcases hk.sg k (by simp) with y | y <;> omega
  · rw [decide_eq_false z]
    simp [z]
def firstA (f g : Fm) : Option (List Ky) := if f = g then none else if f.1 ≠ g.1 then some [] else some [(lastC f.1, 1)]
/-- all sortings, layer by layer -/
def nextL (w : Nat) (ks : List Ky) : List (List Ky) := ((List.range w).filter fun c => !decide (((c : Nat) : Int) ∈ cols ks)).flatMap fun c => [ks ++ [(((c : Nat) : Int), -1)], ks ++ [(((c : Nat) : Int), 1)]]
def layerL (w : Nat) : Nat → List (List Ky)
  | 0 => [[]]
  | n + 1 => (layerL w n).flatMap (nextL w)
def everyN (w : Nat) (n : Nat) : List (List Ky) := (List.range (n + 1)).flatMap (layerL w)
def everyL (w : Nat) : List (List Ky) := everyN w w
theorem everyN_succ (w n : Nat) : everyN w (n + 1) = everyN w n ++ layerL w (n + 1) := by
  unfold everyN
  rw [List.range_succ, List.flatMap_append]
  simp
theorem layer_vk (w : Nat) : ∀ n, ∀ s ∈ layerL w n, Vd s ∧ ∀ x ∈ cols s, 0 ≤ x ∧ x < w
  | 0, s, h => by
    rw [List.mem_singleton.mp h]
    exact ⟨Vd.nil, fun x hx => by cases hx⟩
  | n + 1, s, h => by
    obtain ⟨ks, hk, hs⟩ := List.mem_flatMap.mp h
    obtain ⟨v, b⟩ := layer_vk w n ks hk
    obtain ⟨c, hc, hs⟩ := List.mem_flatMap.mp hs
    obtain ⟨hc1, hc2⟩ := List.mem_filter.mp hc
    have cw := List.mem_range.mp hc1
    have nc : ((c : Nat) : Int) ∉ cols ks := by simpa using hc2
    have go : ∀ σ : Int, σ = 1 ∨ σ = -1 → Vd (ks ++ [(((c : Nat) : Int), σ)]) ∧ ∀ x ∈ cols (ks ++ [(((c : Nat) : Int), σ)]), 0 ≤ x ∧ x < w := fun σ hσ => by
      have ec : cols (ks ++ [(((c : Nat) : Int), σ)]) = cols ks ++ [((c : Nat) : Int)] := by simp [cols]
      refine ⟨⟨?_, fun k hk => ?_⟩, fun x hx => ?_⟩
      · rw [ec, List.nodup_append]
        exact ⟨v.nd, by simp, fun a ha b hb e => nc (by rw [← List.mem_singleton.mp hb, ← e]; exact ha)⟩
      · rcases List.mem_append.mp hk with z | z
        · exact v.sg k z
        · rw [List.mem_singleton.mp z]; exact hσ
      · rw [ec] at hx
        rcases List.mem_append.mp hx with z | z
        · exact b x z
        · rw [List.mem_singleton.mp z]; omega
    rcases List.mem_cons.mp hs with z | z
    · rw [z]; exact go (-1) (.inr rfl)
    · rw [List.mem_singleton.mp z]; exact go 1 (.inl rfl)
theorem every_vk {w : Nat} {s : List Ky} (h : s ∈ everyL w) : Vd s ∧ ∀ x ∈ cols s, 0 ≤ x ∧ x < w := by
  obtain ⟨n, _, hs⟩ := List.mem_flatMap.mp h
  exact layer_vk w n s hs
theorem every_head {w : Nat} (w1 : 1 ≤ w) : ∃ t, everyL w = [] :: ((List.range w).flatMap (fun c => [[(((c : Nat) : Int), (-1 : Int))], [(((c : Nat) : Int), 1)]])) ++ t := by
  obtain ⟨m, rfl⟩ : ∃ m, w = m + 1 := ⟨w - 1, by omega⟩
  unfold everyL everyN
  have : List.range (m + 1 + 1) = 0 :: 1 :: (List.range m).map (· + 2) := by
    rw [List.range_succ_eq_map, List.range_succ_eq_map]
    simp [Function.comp_def]
  rw [this, List.flatMap_cons, List.flatMap_cons]
  refine ⟨((List.range m).map (· + 2)).flatMap (layerL (m + 1)), ?_⟩
  have l1 : layerL (m + 1) 1 = (List.range (m + 1)).flatMap (fun c => [[(((c : Nat) : Int), (-1 : Int))], [(((c : Nat) : Int), 1)]]) := by
    show [[]].flatMap (nextL (m + 1)) = _
    have ft : (List.range (m + 1)).filter (fun c => !decide (((c : Nat) : Int) ∈ cols [])) = List.range (m + 1) := by
      rw [List.filter_eq_self]
      intro _ _
      rfl
    simp only [List.flatMap_cons, List.flatMap_nil, List.append_nil, nextL, ft, List.nil_append]
  rw [l1]
  rfl
theorem find_flat {α β : Type} (p : β → Bool) (f : α → List β) : ∀ (l : List α) (m : α) (y : β), m ∈ l → (f m).find? p = some y → (∀ x ∈ l, x ≠ m → (f x).find? p = none) → (l.flatMap f).find? p = some y
  | [], _, _, h, _, _ => by cases h
  | a :: l, m, y, h, hm, hn => by
    rw [List.flatMap_cons, List.find?_append]
    by_cases e : a = m
    · rw [e, hm]
      rfl
    · rw [hn a List.mem_cons_self e]
      rcases List.mem_cons.mp h with z | z
      · exact absurd z.symm e
      · exact find_flat p f l m y z hm fun x hx => hn x (List.mem_cons_of_mem _ hx)
def apartP (a b : List Int) (s : List Ky) : Bool := !decide (afterL s a = afterL s b)
/-- the first sorting of which two lists of clicks do not make the same -/
theorem apart_first {w : Nat} (w1 : 1 ≤ w) {a b : List Int} (ha : ∀ c ∈ a, 0 ≤ c ∧ c < w) (hb : ∀ c ∈ b, 0 ≤ c ∧ c < w) : (everyL w).find? (apartP a b) = firstA (formL a) (formL b) := by
  unfold firstA
  by_cases e : formL a = formL b
  · rw [if_pos e, List.find?_eq_none]
    intro s hs
    have v := (every_vk hs).1
    unfold apartP
    rw [← made_after a v, ← made_after b v, e]
    simp
  · rw [if_neg e]
    obtain ⟨t, et⟩ := every_head w1
    rw [et, List.cons_append, List.find?_cons]
    by_cases e1 : (formL a).1 = (formL b).1
    · rw [if_neg (not_not_intro e1)]
      have p0 : apartP a b [] = false := by
        unfold apartP
        rw [decide_eq_true (show afterL [] a = afterL [] b from e1)]
        rfl
      rw [p0]
      have ne : (formL a).1 ≠ [] := fun z => e (by rw [form_nil z, form_nil (e1 ▸ z)])
      have e2 : (formL a).2 ≠ (formL b).2 := fun z => e (Prod.ext e1 z)
      have key : ∀ s, Vd s → apartP a b s = decide (s.head? = some (lastC (formL a).1, 1)) := fun s v => by
        unfold apartP
        rw [← made_after a v, ← made_after b v]
        have md := made_diff (s := s) (show Vd (formL a).1 from vk_after a) ne
        have fa : formL a = ((formL a).1, (formL a).2) := rfl
        have fb : formL b = ((formL a).1, (formL b).2) := by rw [e1]
        cases za : (formL a).2 with
        | true =>
          have zb : (formL b).2 = false := by
            cases y : (formL b).2 with
            | false => rfl
            | true => exact absurd (za.trans y.symm) e2
          rw [fa, fb, za, zb]
          by_cases h : s.head? = some (lastC (formL a).1, 1)
          · rw [decide_eq_true h, decide_eq_false fun y => md.mp y h]
            rfl
          · rw [decide_eq_false h, decide_eq_true (md.mpr h)]
            rfl
        | false =>
          have zb : (formL b).2 = true := by
            cases y : (formL b).2 with
            | true => rfl
            | false => exact absurd (za.trans y.symm) e2
          rw [fa, fb, za, zb]
          by_cases h : s.head? = some (lastC (formL a).1, 1)
          · rw [decide_eq_true h, decide_eq_false fun y => md.mp y.symm h]
            rfl
          · rw [decide_eq_false h, decide_eq_true (md.mpr h).symm]
            rfl
      have lc : lastC (formL a).1 ∈ cols (formL a).1 := by
        obtain ⟨l, k, el⟩ := snoc_of ne
        rw [el, last_snoc]
        simp [cols]
      have lb : 0 ≤ lastC (formL a).1 ∧ lastC (formL a).1 < w := by
        rcases after_cols.mp lc with z | z
        · exact ha _ z
        · cases z
      rw [List.find?_append]
      have vs : ∀ (c σ : Int), σ = 1 ∨ σ = -1 → Vd [(c, σ)] := fun c σ h => ⟨by simp [cols], fun k hk => by rw [List.mem_singleton.mp hk]; exact h⟩
      have := find_flat (apartP a b) (fun c : Nat => [[(((c : Nat) : Int), (-1 : Int))], [(((c : Nat) : Int), 1)]]) (List.range w) (lastC (formL a).1).toNat [(lastC (formL a).1, 1)] (List.mem_range.mpr (by omega)) ?_ ?_
      · rw [this]
        rfl
      · rw [List.find?_cons, key _ (vs _ _ (.inr rfl)), List.find?_cons, key _ (vs _ _ (.inl rfl))]
        have ei : (((lastC (formL a).1).toNat : Nat) : Int) = lastC (formL a).1 := by omega
        rw [ei]
        simp
      · intro x _ hx
        rw [List.find?_cons, key _ (vs _ _ (.inr rfl)), List.find?_cons, key _ (vs _ _ (.inl rfl))]
        have : ¬ ((x : Nat) : Int) = lastC (formL a).1 := fun z => hx (by omega)
        simp [this]
    · rw [if_pos e1]
      have p0 : apartP a b [] = true := by
        unfold apartP
        rw [decide_eq_false (show ¬ afterL [] a = afterL [] b from e1)]
        rfl
      rw [p0]
/-! columns moved -/
def sh (d : Int) (ks : List Ky) : List Ky := ks.map fun k => (k.1 + d, k.2)
theorem click_sh (d : Int) (ks : List Ky) (c : Int) : click (sh d ks) (c + d) = sh d (click ks c) := by
  cases ks with
  | nil => rfl
  | cons k r =>
    show (if k.1 + d = c + d then (c + d, -k.2) :: sh d r else (c + d, 1) :: (sh d (k :: r)).filter _) = sh d (if k.1 = c then _ else _)
    by_cases e : k.1 = c
    · rw [if_pos e, if_pos (by rw [e])]
      rfl
    · rw [if_neg e, if_neg (by omega)]
      show _ = (c + d, 1) :: sh d ((k :: r).filter _)
      congr 1
      unfold sh
      rw [List.filter_map]
      congr 1
      refine List.filter_congr fun x _ => ?_
      show (!decide (x.1 + d = c + d)) = !decide (x.1 = c)
      congr 1
      rw [decide_eq_decide]
      omega
theorem after_sh (d : Int) : ∀ (cs : List Int) (s : List Ky), afterL (sh d s) (cs.map (· + d)) = sh d (afterL s cs)
  | [], _ => rfl
  | c :: cs, s => by
    show afterL (click (sh d s) (c + d)) (cs.map (· + d)) = sh d (afterL (click s c) cs)
    rw [click_sh, after_sh d cs]
theorem alone_sh (d : Int) (cs : List Int) : leftAlone (cs.map (· + d)) = leftAlone cs := by
  cases cs with
  | nil => rfl
  | cons c0 r =>
    show (!decide (c0 + d ∈ ((c0 :: r).map (· + d)).dropWhile _)) = !decide (c0 ∈ (c0 :: r).dropWhile _)
    have : ∀ l : List Int, (l.map (· + d)).dropWhile (fun c => decide (c = c0 + d)) = (l.dropWhile (fun c => decide (c = c0))).map (· + d) := fun l => by
      induction l with
      | nil => rfl
      | cons x l ih =>
        rw [List.map_cons, List.dropWhile_cons, List.dropWhile_cons]
        by_cases e : x = c0
        · rw [if_pos (decide_eq_true e), if_pos (by simp [e]), ih]
        · rw [if_neg (by simp [e]), if_neg (by simp; omega)]
          rfl
    rw [this]
    congr 1
    rw [decide_eq_decide, List.mem_map]
    exact ⟨fun ⟨x, h, e⟩ => (show x = c0 by omega) ▸ h, fun h => ⟨c0, h, rfl⟩⟩
theorem form_sh (d : Int) (cs : List Int) : formL (cs.map (· + d)) = (sh d (formL cs).1, (formL cs).2) := by
  unfold formL
  rw [alone_sh]
  have this : afterL [] (cs.map (· + d)) = sh d (afterL [] cs) := after_sh d cs []
  show (afterL [] (cs.map (· + d)), leftAlone cs) = (sh d (afterL [] cs), leftAlone cs)
  rw [this]
theorem sh_inj {d : Int} {a b : List Ky} (h : sh d a = sh d b) : a = b := by
  unfold sh at h
  refine (List.map_inj_right fun x y e => ?_).mp h
  obtain ⟨x1, x2⟩ := x
  obtain ⟨y1, y2⟩ := y
  simp only [Prod.mk.injEq] at e ⊢
  omega
theorem last_sh {d : Int} {a : List Ky} (h : a ≠ []) : lastC (sh d a) = lastC a + d := by
  obtain ⟨l, k, rfl⟩ := snoc_of h
  rw [last_snoc]
  unfold sh
  rw [List.map_append]
  exact last_snoc _ _
theorem first_sh (d : Int) {a b : List Int} : firstA (formL (a.map (· + d))) (formL (b.map (· + d))) = (firstA (formL a) (formL b)).map (sh d) := by
  rw [form_sh, form_sh]
  unfold firstA
  by_cases e : formL a = formL b
  · rw [if_pos e, if_pos (by rw [e])]
    rfl
  · have ne : ¬ ((sh d (formL a).1, (formL a).2) = (sh d (formL b).1, (formL b).2)) := fun z => e (Prod.ext (sh_inj (Prod.mk.inj z).1) (Prod.mk.inj z).2)
    rw [if_neg e, if_neg ne]
    by_cases e1 : (formL a).1 = (formL b).1
    · rw [if_neg (not_not_intro e1), if_neg (not_not_intro (by rw [e1]))]
      have na : (formL a).1 ≠ [] := fun z => e (by rw [form_nil z, form_nil (e1 ▸ z)])
      show some [(lastC (sh d (formL a).1), 1)] = some [(lastC (formL a).1 + d, 1)]
      rw [last_sh na]
    · rw [if_pos e1, if_pos (fun z => e1 (sh_inj z))]
      rfl
theorem vk_sh {d : Int} {s : List Ky} (h : Vd s) : Vd (sh d s) := by
  refine ⟨?_, fun k hk => ?_⟩
  · have : cols (sh d s) = (cols s).map (· + d) := by simp [cols, sh]
    rw [this, List.nodup_iff_pairwise_ne, List.pairwise_map]
    exact (List.nodup_iff_pairwise_ne.mp h.nd).imp fun h e => h (by omega)
  · obtain ⟨x, hx, rfl⟩ := List.mem_map.mp hk
    exact h.sg x hx
end K09
set_option Elab.async false
set_option linter.all false
set_option maxRecDepth 100000
set_option maxHeartbeats 4000000
namespace K09
open PySem L2 My
def otherI (cs : List Int) : List Int := ((List.range cs.length).map fun i => (0 : Int) + ((i : Nat) : Int)).filter fun x => !decide (cs.getD x.toNat 0 = cs.getD 0 0)
def againI (cs : List Int) : List Int := ((List.range cs.length).map fun i => (0 : Int) + ((i : Nat) : Int)).filter fun x => decide (otherI cs ≠ []) && (decide (x > (otherI cs).headD 0) && decide (cs.getD x.toNat 0 = cs.getD 0 0))
theorem drop_while (P : Int → Bool) : ∀ cs : List Int, ∃ m, m ≤ cs.length ∧ cs.dropWhile P = cs.drop m ∧ (∀ i, i < m → P (cs.getD i 0) = true) ∧ (m < cs.length → P (cs.getD m 0) = false)
  | [] => ⟨0, Nat.le_refl _, rfl, fun i h => absurd h (Nat.not_lt_zero _), fun h => absurd h (Nat.not_lt_zero _)⟩
  | x :: l => by
    obtain ⟨m, h1, h2, h3, h4⟩ := drop_while P l
    cases z : P x with
    | true =>
      refine ⟨m + 1, Nat.succ_le_succ h1, ?_, fun i hi => ?_, fun h => h4 (Nat.lt_of_succ_lt_succ h)⟩
      · rw [List.dropWhile_cons, z]
        exact h2
      · cases i with
        | zero => exact z
        | succ i => exact h3 i (Nat.lt_of_succ_lt_succ hi)
    | false =>
      refine ⟨0, Nat.zero_le _, ?_, fun i h => absurd h (Nat.not_lt_zero _), fun _ => z⟩
      rw [List.dropWhile_cons, z]
      rfl
theorem bound_eq (cs : List Int) : (decide (cs ≠ []) && decide (againI cs = [])) = leftAlone cs := by
  cases cs with
  | nil => rfl
  | cons c0 r =>
    have ne : c0 :: r ≠ [] := by simp
    rw [decide_eq_true ne, Bool.true_and]
    show _ = !decide (c0 ∈ (c0 :: r).dropWhile (fun c => decide (c = c0)))
    obtain ⟨m, h1, h2, h3, h4⟩ := drop_while (fun c => decide (c = c0)) (c0 :: r)
    rw [h2]
    have g0 : (c0 :: r).getD 0 0 = c0 := rfl
    generalize hcs : c0 :: r = cs at *
    by_cases hm : m = cs.length
    · have o : otherI cs = [] := by
        unfold otherI
        rw [List.filter_eq_nil_iff]
        intro x hx
        obtain ⟨i, hi, rfl⟩ := List.mem_map.mp hx
        have hi := List.mem_range.mp hi
        have := h3 i (by omega)
        have e : ((0 : Int) + (i : Int)).toNat = i := by omega
        rw [e, g0]
        have := of_decide_eq_true this
        rw [this]
        simp
      have a : againI cs = [] := by
        unfold againI
        rw [List.filter_eq_nil_iff]
        intro x hx
        rw [o]
        simp
      rw [a, hm, List.drop_length]
      rfl
    · have ml : m < cs.length := by omega
      have h4 := h4 ml
      have fm : (otherI cs).head? = some ((m : Nat) : Int) := by
        unfold otherI
        rw [List.head?_filter, List.find?_map]
        have : (List.range cs.length).find? ((fun x : Int => !decide (cs.getD x.toNat 0 = cs.getD 0 0)) ∘ fun i : Nat => (0 : Int) + (i : Int)) = some m := by
          rw [List.find?_range_eq_some]
          have e : ∀ i : Nat, ((0 : Int) + (i : Int)).toNat = i := fun i => by omega
          refine ⟨?_, List.mem_range.mpr ml, fun j hj => ?_⟩
          · show (!decide (cs.getD ((0 : Int) + (m : Int)).toNat 0 = cs.getD 0 0)) = true
            rw [e, g0, h4]
            rfl
          · show (!(!decide (cs.getD ((0 : Int) + (j : Int)).toNat 0 = cs.getD 0 0))) = true
            rw [e, g0, h3 j hj]
            rfl
        rw [this]
        show some ((0 : Int) + (m : Int)) = _
        rw [Int.zero_add]
      have one : otherI cs ≠ [] := fun z => by rw [z] at fm; cases fm
      have hd : (otherI cs).headD 0 = ((m : Nat) : Int) := by
        rw [List.headD_eq_head?_getD, fm]
        rfl
      by_cases z : c0 ∈ cs.drop m
      · rw [decide_eq_true z]
        have : againI cs ≠ [] := fun y => by
          unfold againI at y
          rw [List.filter_eq_nil_iff] at y
          obtain ⟨i, hi⟩ := List.mem_iff_getElem?.mp z
          rw [List.getElem?_drop] at hi
          have hl := (List.getElem?_eq_some_iff.mp hi).1
          have gi : cs.getD (m + i) 0 = c0 := by rw [List.getD_eq_getElem?_getD, hi]; rfl
          have i0 : i ≠ 0 := fun e => by
            rw [e, Nat.add_zero] at gi
            rw [gi] at h4
            simp at h4
          have := y ((0 : Int) + ((m + i : Nat) : Int)) (List.mem_map.mpr ⟨m + i, List.mem_range.mpr hl, rfl⟩)
          have e : ((0 : Int) + ((m + i : Nat) : Int)).toNat = m + i := by omega
          rw [e, hd, gi, g0, decide_eq_true one, decide_eq_true rfl, decide_eq_true (show (0 : Int) + ((m + i : Nat) : Int) > (m : Int) by omega)] at this
          exact this rfl
        rw [decide_eq_false this]
        rfl
      · rw [decide_eq_false z]
        have : againI cs = [] := by
          unfold againI
          rw [List.filter_eq_nil_iff]
          intro x hx y
          obtain ⟨i, hi, rfl⟩ := List.mem_map.mp hx
          have hi := List.mem_range.mp hi
          rw [Bool.and_eq_true, Bool.and_eq_true] at y
          obtain ⟨_, y1, y2⟩ := y
          have y1 := of_decide_eq_true y1
          have y2 := of_decide_eq_true y2
          have e : ((0 : Int) + (i : Int)).toNat = i := by omega
          rw [e, g0] at y2
          rw [hd] at y1
          refine z (List.mem_iff_getElem?.mpr ⟨i - m, ?_⟩)
          rw [List.getElem?_drop, show m + (i - m) = i by omega, List.getElem?_eq_getElem hi]
          rw [List.getD_eq_getElem?_getD, List.getElem?_eq_getElem hi] at y2
          exact congrArg some y2
        rw [decide_eq_true this]
        rfl
/-! the sortings over whole numbers -/
def free (w : Nat) (ks : List Ky) : List Int := ((List.range w).map fun i => (0 : Int) + ((i : Nat) : Int)).filter fun c => !decide (c ∈ cols ks)
def both (ks : List Ky) (c : Int) : List (List Ky) := [ks ++ [(c, -1)], ks ++ [(c, 1)]]
theorem nextL_free (w : Nat) (ks : List Ky) : nextL w ks = (free w ks).flatMap (both ks) := by
  unfold nextL free both
  rw [List.filter_map, List.flatMap_map]
  have : ((fun c : Int => !decide (c ∈ cols ks)) ∘ fun i : Nat => (0 : Int) + (i : Int)) = fun c : Nat => !decide (((c : Nat) : Int) ∈ cols ks) := by
    funext i
    show (!decide ((0 : Int) + (i : Int) ∈ cols ks)) = _
    rw [Int.zero_add]
  rw [this]
  congr 1
  funext i
  show [_, _] = [_, _]
  rw [Int.zero_add]
theorem free_len (w : Nat) (ks : List Ky) : (free w ks).length ≤ w := by
  unfold free
  have := List.length_filter_le (fun c : Int => !decide (c ∈ cols ks)) ((List.range w).map fun i => (0 : Int) + ((i : Nat) : Int))
  simpa using this
theorem both_len (ks : List Ky) : ∀ l : List Int, (l.flatMap (both ks)).length = 2 * l.length
  | [] => rfl
  | c :: l => by
    rw [List.flatMap_cons, List.length_append, both_len ks l, List.length_cons]
    show 2 + _ = _
    omega
theorem next_len (w : Nat) (ks : List Ky) : (nextL w ks).length ≤ 2 * w := by
  rw [nextL_free, both_len]
  have := free_len w ks
  omega
theorem nexts_len (w : Nat) : ∀ l : List (List Ky), (l.flatMap (nextL w)).length ≤ 2 * w * l.length
  | [] => Nat.le_refl _
  | a :: l => by
    rw [List.flatMap_cons, List.length_append, List.length_cons, Nat.mul_succ]
    have := next_len w a
    have := nexts_len w l
    omega
theorem layer_len (w : Nat) : ∀ n, (layerL w n).length ≤ (2 * w) ^ n
  | 0 => Nat.le_refl _
  | n + 1 => by
    refine Nat.le_trans (nexts_len w (layerL w n)) ?_
    rw [Nat.pow_succ, Nat.mul_comm]
    exact Nat.mul_le_mul_right _ (layer_len w n)
theorem layer_le {w n : Nat} (hw : w ≤ 3) (hn : n ≤ 3) : (layerL w n).length ≤ 216 := by
  refine Nat.le_trans (layer_len w n) (Nat.le_trans (Nat.pow_le_pow_left (show 2 * w ≤ 6 by omega) n) ?_)
  exact Nat.pow_le_pow_right (by decide) hn
theorem every_le {w : Nat} (hw : w ≤ 3) : ∀ n, n ≤ 3 → (everyN w n).length ≤ 216 * (n + 1)
  | 0, _ => by
    show (everyN w 0).length ≤ 216
    unfold everyN
    have : (List.range (0 + 1)).flatMap (layerL w) = layerL w 0 := by simp [List.range_succ]
    rw [this]
    exact layer_le hw (by omega)
  | n + 1, h => by
    rw [everyN_succ, List.length_append]
    have := every_le hw n (by omega)
    have := layer_le (w := w) (n := n + 1) hw h
    omega
theorem layer_size (w : Nat) : ∀ n, ∀ s ∈ layerL w n, s.length = n
  | 0, s, h => by rw [List.mem_singleton.mp h]; rfl
  | n + 1, s, h => by
    obtain ⟨ks, hk, hs⟩ := List.mem_flatMap.mp h
    have ih := layer_size w n ks hk
    obtain ⟨c, _, hs⟩ := List.mem_flatMap.mp hs
    rcases List.mem_cons.mp hs with z | z
    · rw [z, List.length_append, ih]; rfl
    · rw [List.mem_singleton.mp z, List.length_append, ih]; rfl
theorem every_size {w : Nat} {s : List Ky} (h : s ∈ everyL w) : s.length ≤ w := by
  obtain ⟨n, hn, hs⟩ := List.mem_flatMap.mp h
  rw [layer_size w n s hs]
  have := List.mem_range.mp hn
  omega
end K09
set_option Elab.async false
set_option pp.maxSteps 1200
set_option linter.all false
set_option maxRecDepth 100000
set_option maxHeartbeats 4000000
namespace K09
open PySem L2 My
theorem at0 {α : Type} {a : α} {l : List α} : atI (a :: l) 0 = some a := atI_nat (j := 0) rfl
theorem at1 {α : Type} {a b : α} {l : List α} : atI (a :: b :: l) 1 = some b := atI_nat (j := 1) rfl
theorem mapI_get {ts : List Int} {i : Nat} {x : V} (h : (ts.map V.int)[i]? = some x) : ∃ t, ts[i]? = some t ∧ x = V.int t := mapI_at h
theorem nef {a b : V} (h : a = b) : (!decide (a = b)) = false := by
  rw [decide_eq_true h]
  rfl
theorem same {α : Type} [DecidableEq α] {a : α} : (!decide (a = a)) = false := by
  rw [decide_eq_true rfl]
  rfl
theorem decBl (a b : Bool) : decide (V.bl a = V.bl b) = decide (a = b) := by
  rw [decide_eq_decide]
  exact ⟨fun z => by injection z, fun z => by rw [z]⟩
theorem decInt (a b : Int) : decide (V.int a = V.int b) = decide (a = b) := by
  rw [decide_eq_decide]
  exact ⟨fun z => by injection z, fun z => by rw [z]⟩
theorem inV_int (x : Int) (rows : List Int) : inV (V.int x) (rows.map V.int) = decide (x ∈ rows) := by
  unfold inV
  rw [List.any_map, Bool.eq_iff_iff, List.any_eq_true]
  constructor
  · rintro ⟨n, hn, e⟩
    have : n = x := by
      have e : (n == x) = true := e
      simpa using e
    subst this
    exact decide_eq_true hn
  · intro h
    exact ⟨x, of_decide_eq_true h, by show (x == x) = true; simp⟩
theorem flatI (rows : List Int) : (rows.map V.int).all flatV = true := by
  rw [List.all_map, List.all_eq_true]
  intro _ _
  rfl
/-! ### keys in the heap -/
def KyR (K : PySem.W.Frag) (H : Hp) (v : V) (k : Ky) : Prop := ∃ q, v = .ref q ∧ SqT K H q [.int k.1, .int k.2]
abbrev KsAt (K : PySem.W.Frag) (H : Hp) (us : List V) (ks : List Ky) : Prop := AllR (KyR K H) us ks
theorem KyR.ex {K : PySem.W.Frag} {H H' : Hp} {v : V} {k : Ky} (h : KyR K H v k) (e : Ex H H') : KyR K H' v k := let ⟨q, a, b⟩ := h; ⟨q, a, Evl.ex_t e b⟩
theorem KsAt.ex {K : PySem.W.Frag} {H H' : Hp} {us : List V} {ks : List Ky} (h : KsAt K H us ks) (e : Ex H H') : KsAt K H' us ks := h.mono fun _ _ r => r.ex e
theorem sqT_exj {K : PySem.W.Frag} {H H' : Hp} {j q : Addr} {xs ys : List V} (e : Exj j H H') (hj : H j = some (.lst ys)) (h : SqT K H q xs) : SqT K H' q xs := by
  rcases h with (h | ⟨o, h⟩) | h
  · exact .inl (.inl (e _ _ (fun z => by rw [z, hj] at h; cases h) h))
  · exact .inl (.inr ⟨o, e _ _ (fun z => by rw [z, hj] at h; cases h) h⟩)
  · exact .inr h
theorem KsAt.exj {K : PySem.W.Frag} {H H' : Hp} {j : Addr} {us ys : List V} {ks : List Ky} (h : KsAt K H us ks) (e : Exj j H H') (hj : H j = some (.lst ys)) : KsAt K H' us ks := h.mono fun _ _ ⟨q, a, b⟩ => ⟨q, a, sqT_exj e hj b⟩
/-- a list of keys at p -/
def LsK (K : PySem.W.Frag) (H : Hp) (p : Addr) (ks : List Ky) : Prop := ∃ us, H p = some (.lst us) ∧ KsAt K H us ks
theorem LsK.ex {K : PySem.W.Frag} {H H' : Hp} {p : Addr} {ks : List Ky} (h : LsK K H p ks) (e : Ex H H') : LsK K H' p ks := let ⟨us, a, b⟩ := h; ⟨us, e _ _ a, b.ex e⟩
theorem LsK.exj {K : PySem.W.Frag} {H H' : Hp} {j p : Addr} {ys : List V} {ks : List Ky} (h : LsK K H p ks) (e : Exj j H H') (n : p ≠ j) (hj : H j = some (.lst ys)) : LsK K H' p ks := let ⟨us, a, b⟩ := h; ⟨us, e _ _ n a, b.exj e hj⟩
abbrev eK : Ky → PyData := eP PyData.int PyData.int
theorem goodK : Good eK 1 := goodP goodI goodI
theorem KyR.dp {K : PySem.W.Frag} {H : Hp} {v : V} {k : Ky} (h : KyR K H v k) : Dp K H v (eK k) := by
  obtain ⟨q, rfl, b⟩ := h
  exact .tup b (.cons (.int _) (.cons (.int _) .nil))
theorem LsK.dp {K : PySem.W.Frag} {H : Hp} {p : Addr} {ks : List Ky} (h : LsK K H p ks) : Dp K H (.ref p) (eL eK ks) := let ⟨us, a, b⟩ := h; .lst (sqI a) (b.dp fun _ _ r => r.dp)
theorem nilD {K : PySem.W.Frag} {H : Hp} {p : Addr} (h : H p = some (.lst [])) : Dp K H (.ref p) (eL eK []) := .lst (sqI h) .nil
/-- a form -/
def FmR (K : PySem.W.Frag) (H : Hp) (v : V) (f : Fm) : Prop := ∃ p q, v = .ref p ∧ H p = some (.tup [.ref q, .bl f.2]) ∧ LsK K H q f.1
theorem FmR.ex {K : PySem.W.Frag} {H H' : Hp} {v : V} {f : Fm} (h : FmR K H v f) (e : Ex H H') : FmR K H' v f := let ⟨p, q, a, b, c⟩ := h; ⟨p, q, a, e _ _ b, c.ex e⟩
abbrev eF : Fm → PyData := eP (eL eK) PyData.bool
theorem goodUp {α : Type} [DecidableEq α] {e : α → PyData} {n m : Nat} (g : Good e n) (h : n ≤ m) : Good e m := ⟨g.lay, fun x => Nat.le_trans (g.dep x) h, g.eqv⟩
theorem goodF : Good eF 3 := goodP (goodL goodK) (goodUp goodB (by decide))
theorem FmR.dp {K : PySem.W.Frag} {H : Hp} {v : V} {f : Fm} (h : FmR K H v f) : Dp K H v (eF f) := by
  obtain ⟨p, q, rfl, b, c⟩ := h
  exact .tup (sqT b) (.cons c.dp (.cons (.bl _) .nil))
/-- read only -/
def LsQ (K : PySem.W.Frag) (H : Hp) (p : Addr) (ks : List Ky) : Prop := ∃ us, SqL K H p us ∧ KsAt K H us ks
theorem LsK.q {K : PySem.W.Frag} {H : Hp} {p : Addr} {ks : List Ky} (h : LsK K H p ks) : LsQ K H p ks := let ⟨us, a, b⟩ := h; ⟨us, sqI a, b⟩
theorem LsQ.ex {K : PySem.W.Frag} {H H' : Hp} {p : Addr} {ks : List Ky} (h : LsQ K H p ks) (e : Ex H H') : LsQ K H' p ks := let ⟨us, a, b⟩ := h; ⟨us, Evl.ex_l e a, b.ex e⟩
theorem LsQ.dp {K : PySem.W.Frag} {H : Hp} {p : Addr} {ks : List Ky} (h : LsQ K H p ks) : Dp K H (.ref p) (eL eK ks) := let ⟨us, a, b⟩ := h; .lst a (b.dp fun _ _ r => r.dp)
def FmQ (K : PySem.W.Frag) (H : Hp) (v : V) (f : Fm) : Prop := ∃ p q, v = .ref p ∧ SqT K H p [.ref q, .bl f.2] ∧ LsQ K H q f.1
theorem FmR.q {K : PySem.W.Frag} {H : Hp} {v : V} {f : Fm} (h : FmR K H v f) : FmQ K H v f := let ⟨p, q, a, b, c⟩ := h; ⟨p, q, a, sqT b, c.q⟩
theorem FmQ.ex {K : PySem.W.Frag} {H H' : Hp} {v : V} {f : Fm} (h : FmQ K H v f) (e : Ex H H') : FmQ K H' v f := let ⟨p, q, a, b, c⟩ := h; ⟨p, q, a, Evl.ex_t e b, c.ex e⟩
theorem dp_key {K : PySem.W.Frag} {H : Hp} {v : V} {k : Ky} (h : Dp K H v (eK k)) : KyR K H v k := by
  cases h with
  | tup ht ha =>
    cases ha with
    | cons h1 a1 =>
      cases a1 with
      | cons h2 a2 =>
        cases a2
        cases h1
        cases h2
        exact ⟨_, rfl, ht⟩
theorem dp_keys {K : PySem.W.Frag} {H : Hp} : ∀ {us : List V} {ks : List Ky}, DpAll K H us (ks.map eK) → KsAt K H us ks
  | _, [], h => by
    cases h
    exact AllR.nil
  | _, k :: ks, h => by
    cases h with
    | cons h1 a1 =>
      have := (AllR.one (R := KyR K H) (dp_key h1)).append (dp_keys a1)
      exact this
theorem dp_lsq {K : PySem.W.Frag} {H : Hp} {v : V} {ks : List Ky} (h : Dp K H v (eL eK ks)) : ∃ p, v = .ref p ∧ LsQ K H p ks := by
  cases h with
  | lst hl ha => exact ⟨_, rfl, _, hl, dp_keys ha⟩
theorem dp_fm {K : PySem.W.Frag} {H : Hp} {v : V} {f : Fm} (h : Dp K H v (eF f)) : FmQ K H v f := by
  cases h with
  | tup ht ha =>
    cases ha with
    | cons h1 a1 =>
      cases a1 with
      | cons h2 a2 =>
        cases a2
        cases h2
        obtain ⟨p, rfl, hp⟩ := dp_lsq h1
        exact ⟨_, p, rfl, ht, hp⟩
theorem optHead {ks : List Ky} (h : ks ≠ []) : ∃ k r, ks = k :: r := List.exists_cons_of_ne_nil h
/-! ### the promises -/
def sp_are_keys (K : PySem.W.Frag) : Sp := fun vs H Q _ => ∃ (p : Addr) (ks : List Ky), vs = [.ref p] ∧ LsQ K H p ks ∧ ks.length ≤ 500 ∧ Evl.RetV (.bl (areKeys ks)) H Q
def sp_need_keys (K : PySem.W.Frag) : Sp := fun vs H Q _ => ∃ (p : Addr) (ks : List Ky), vs = [.ref p] ∧ LsQ K H p ks ∧ ks.length ≤ 500 ∧ areKeys ks = true ∧ ∀ H', Ex H H' → Q .non H'
def NewK (K : PySem.W.Frag) (ks : List Ky) (H : Hp) (Q : L2.VK) : Prop := ∀ p H', H p = none → Ex H H' → LsK K H' p ks → Q (.ref p) H'
def sp_after_click (K : PySem.W.Frag) : Sp := fun vs H Q _ => ∃ (p : Addr) (ks : List Ky) (c : Int), vs = [.ref p, .int c] ∧ LsK K H p ks ∧ ks.length ≤ 500 ∧ NewK K (click ks c) H Q
def sp_after_clicks (K : PySem.W.Frag) : Sp := fun vs H Q _ => ∃ (p a : Addr) (ks : List Ky) (cs : List Int), vs = [.ref p, .ref a] ∧ LsK K H p ks ∧ SqL K H a (cs.map V.int) ∧ ks.length + cs.length ≤ 500 ∧ NewK K (afterL ks cs) H Q
def sp_has_form (K : PySem.W.Frag) : Sp := fun vs H Q _ => ∃ (v : V) (f : Fm), vs = [v] ∧ FmQ K H v f ∧ f.1.length ≤ 500 ∧ Evl.RetV (.bl (hasForm f)) H Q
def sp_need_form (K : PySem.W.Frag) : Sp := fun vs H Q _ => ∃ (v : V) (f : Fm), vs = [v] ∧ FmQ K H v f ∧ f.1.length ≤ 500 ∧ hasForm f = true ∧ ∀ H', Ex H H' → Q .non H'
def sp_columns_of (K : PySem.W.Frag) : Sp := fun vs H Q _ => ∃ (p : Addr) (ks : List Ky), vs = [.ref p] ∧ LsK K H p ks ∧ ks.length ≤ 500 ∧ New (.lst ((cols ks).map V.int)) H Q
def sp_is_left_alone (K : PySem.W.Frag) : Sp := fun vs H Q _ => ∃ (a : Addr) (cs : List Int), vs = [.ref a] ∧ SqL K H a (cs.map V.int) ∧ cs.length ≤ 500 ∧ Evl.RetV (.bl (leftAlone cs)) H Q
def sp_made_form (K : PySem.W.Frag) : Sp := fun vs H Q _ => ∃ (a : Addr) (cs : List Int), vs = [.ref a] ∧ SqL K H a (cs.map V.int) ∧ cs.length ≤ 500 ∧ (∀ c ∈ cs, 0 ≤ c) ∧ ∀ v H', Ex H H' → FmR K H' v (formL cs) → Q v H'
def sp_made_of (K : PySem.W.Frag) : Sp := fun vs H Q _ => ∃ (v : V) (p : Addr) (f : Fm) (s : List Ky), vs = [v, .ref p] ∧ FmR K H v f ∧ LsK K H p s ∧ f.1.length ≤ 500 ∧ s.length ≤ 500 ∧ (f.2 = true → f.1 ≠ []) ∧ NewK K (madeOf f s) H Q
def sp_formed (K : PySem.W.Frag) : Sp := fun vs H Q _ => ∃ (v : V) (p : Addr) (f : Fm) (s : List Ky), vs = [v, .ref p] ∧ FmR K H v f ∧ LsK K H p s ∧ f.1.length ≤ 500 ∧ s.length ≤ 500 ∧ hasForm f = true ∧ areKeys s = true ∧ (f.2 = true → f.1 ≠ []) ∧ NewK K (madeOf f s) H Q
def sp_alike (K : PySem.W.Frag) : Sp := fun vs H Q _ => ∃ (a b : Addr) (cs ds : List Int), vs = [.ref a, .ref b] ∧ SqL K H a (cs.map V.int) ∧ SqL K H b (ds.map V.int) ∧ cs.length ≤ 500 ∧ ds.length ≤ 500 ∧ (∀ c ∈ cs, 0 ≤ c) ∧ (∀ c ∈ ds, 0 ≤ c) ∧ Evl.RetV (.bl (decide (formL cs = formL ds))) H Q
/-- a list of keys, or None -/
def OptK (K : PySem.W.Frag) (H : Hp) (v : V) : Option (List Ky) → Prop
  | none => v = .non
  | some ks => ∃ p, v = .ref p ∧ LsK K H p ks
def sp_first_apart (K : PySem.W.Frag) : Sp := fun vs H Q _ => ∃ (a b : Addr) (cs ds : List Int), vs = [.ref a, .ref b] ∧ SqL K H a (cs.map V.int) ∧ SqL K H b (ds.map V.int) ∧ cs.length ≤ 500 ∧ ds.length ≤ 500 ∧ (∀ c ∈ cs, 0 ≤ c) ∧ (∀ c ∈ ds, 0 ≤ c) ∧ ∀ v H', Ex H H' → OptK K H' v (firstA (formL cs) (formL ds)) → Q v H'
theorem click_len (ks : List Ky) (c : Int) : (click ks c).length ≤ ks.length + 1 := by
  cases ks with
  | nil => exact Nat.le_refl _
  | cons k r =>
    show (if k.1 = c then (c, -k.2) :: r else (c, 1) :: (k :: r).filter _).length ≤ _
    split
    · simp
    · have := List.length_filter_le (fun x : Ky => !decide (x.1 = c)) (k :: r)
      simp only [List.length_cons] at *
      omega
theorem after_len : ∀ (cs : List Int) (ks : List Ky), (afterL ks cs).length ≤ ks.length + cs.length
  | [], ks => Nat.le_refl _
  | c :: cs, ks => by
    have := after_len cs (click ks c)
    have := click_len ks c
    show (afterL (click ks c) cs).length ≤ _
    rw [List.length_cons]
    omega
theorem take_after {cs : List Int} {i : Nat} {c : Int} (h : cs[i]? = some c) (ks : List Ky) : afterL ks (cs.take (i + 1)) = click (afterL ks (cs.take i)) c := by
  rw [take_snoc h, afterL_snoc]
section
variable {w : World} {K : PySem.W.Frag} {mg : Str → Option Value} {base : Heap}
theorem ok_are_keys (T : Txt K mg) : FnOk PR w K mg base CX0 1 T.a_are_keys T.d_are_keys ["sorting"] (sp_are_keys K) := by
  refine T.f_are_keys.ok sc_are_keys (fun vs H Q E h => ?_) (fun cdv A outer s H vs Q E hr h => ?_)
  · obtain ⟨p, ks, rfl, _⟩ := h
    rfl
  · obtain ⟨p, ks, rfl, ⟨us, hp, hk⟩, hl, k⟩ := h
    refine ⟨_, (pss_cons (ps_setLc (i := 1) (own := [("column", 2), ("sign", 3)]) (g := (gTup K 2 (gCons (gName 2) (gCons (gName 3) gNil)))) (by rfl) sc_are_keys.nd rfl rfl (sw_true rfl rfl rfl (by decide +kernel)) (pi_list (pv 0)) (blkOk_by (own := [("column", 2), ("sign", 3)]) (N := ["sorting", "columns", "column", "sign"]) (sc := (defScope s_are_keys)) (by decide +kernel)) (fun _ _ _ _ _ => (pg_tup rfl (pgs_cons (pg_name (i := 2) sc_are_keys.nd rfl (by first | exact Or.inl rfl | exact Or.inr rfl)) (pgs_cons (pg_name (i := 3) sc_are_keys.nd rfl (by first | exact Or.inl rfl | exact Or.inr rfl)) pgs_nil)))) (fun _ _ _ _ _ => pts_nil) (fun _ _ _ _ _ => (pv 2))) (pss_cons (ps_if (pt_cmpR op_ne (pe_lenSetG (by rfl) T.z_len (by rfl) T.z_set (pv 1)) (pe_callB call_len_seq (by rfl) T.z_len PySem.boot_len (pa_cons (pv 1) pa_nil)) (nomark _)) (pss_one (ps_ret pe_bl)) pss_nil) (pss_one (ps_ret (pe_callB (cr_all rfl) (by rfl) T.z_all (by decide +kernel) (pa_cons (pe_lc (own := [("column", 2), ("sign", 3)]) (g := (gTup K 2 (gCons (gName 2) (gCons (gName 3) gNil)))) (by rfl) sc_are_keys.nd (pi_list (pv 0)) (blkOk_by (own := [("column", 2), ("sign", 3)]) (N := ["sorting", "columns", "column", "sign"]) (sc := (defScope s_are_keys)) (by decide +kernel)) (fun _ _ _ _ _ => (pg_tup rfl (pgs_cons (pg_name (i := 2) sc_are_keys.nd rfl (by first | exact Or.inl rfl | exact Or.inr rfl)) (pgs_cons (pg_name (i := 3) sc_are_keys.nd rfl (by first | exact Or.inl rfl | exact Or.inr rfl)) pgs_nil)))) (fun _ _ _ _ _ => pts_nil) (fun _ _ _ _ _ => (pe_and (pe_cmpR op_ge (pv 2) pe_int (nomark _)) (pe_one (pe_cmpR (opK (r := fun K => rIn K false) (K := K) (by rfl) op_in_seq) (pv 3) (pe_tupG (pa_cons pe_int (pa_cons (pe_un un_neg pe_int) pa_nil))) (by rfl)))))) pa_nil)))))), ?_⟩
    have ul := hk.1
    refine ⟨_, rfl, p, rfl, ⟨_, hp⟩, fun D hD => lc_mapG (K := K) (a := p) (ys := (cols ks).map V.int) (hp) hD (by simp [cols, ul]) (Nat.le_trans (show us.length ≤ 500 by omega) (by decide)) ?_ ?_⟩
    · intro i x y H' e' hx hy N Z kN
      obtain ⟨k, hki, q, rfl, hq⟩ := hk.get hx
      have hy' : (cols ks)[i]? = some k.1 := by unfold cols; rw [List.getElem?_map, hki]; rfl
      rw [List.getElem?_map, hy'] at hy
      cases hy
      refine ⟨_, _, rfl, Evl.ex_t e' hq, rfl, _, _, rfl, _, _, rfl, rfl, rfl, ?_⟩
      show _
      exact ⟨_, rfl, kN H' (Evl.Ex.refl _)⟩
    intro H1 e1 d1
    have cl : (cols ks).length = ks.length := by simp [cols]
    refine ⟨_, rfl, D, cols ks, rfl, sqI d1, by omega, fun c hc => ?_⟩
    refine ⟨_, rfl, _, _, rfl, .inl (sqI d1), rfl, _, rfl, ?_⟩
    rw [List.length_map, decInt]
    have dn := diff_nodup hc
    have ak : areKeys ks = (decide ((cols ks).Nodup) && ks.all okK) := rfl
    refine ifB (fun z => ?_) (fun z => ?_)
    · have : ¬ (cols ks).Nodup := fun y => by
        have := dn.mpr y
        rw [this] at z
        simp at z
      rw [decide_eq_false this, Bool.false_and] at ak
      rw [← ak]
      exact k H1 e1
    · have nd : (cols ks).Nodup := dn.mp (by
        have z : ((c : Nat) : Int) = (((cols ks).length : Nat) : Int) := by simpa using z
        omega)
      rw [decide_eq_true nd, Bool.true_and] at ak
      refine ⟨_, rfl, p, rfl, ⟨_, Evl.ex_l e1 hp⟩, fun D2 hD2 => lc_mapG (K := K) (a := p) (ys := (ks.map okK).map V.bl) (Evl.ex_l e1 hp) hD2 (by simp [ul]) (Nat.le_trans (show us.length ≤ 500 by omega) (by decide)) ?_ ?_⟩
      · intro i x y H' e' hx hy N Z kN
        obtain ⟨k, hki, q, rfl, hq⟩ := hk.get hx
        rw [List.getElem?_map, List.getElem?_map, hki] at hy
        cases hy
        refine ⟨_, _, rfl, Evl.ex_t (e1.trans e') hq, rfl, _, _, rfl, _, _, rfl, rfl, rfl, ?_⟩
        show _
        refine ⟨_, rfl, _, _, rfl, rfl, _, rfl, ?_⟩
        have ok : okK k = (decide (0 ≤ k.1) && decide (k.2 ∈ [1, (-1 : Int)])) := rfl
        refine ifB (fun z => ?_) (fun z => ?_)
        · have z : 0 ≤ k.1 := of_decide_eq_true z
          rw [decide_eq_true z, Bool.true_and] at ok
          refine ⟨_, rfl, _, rfl, (by show 2 ≤ sizeLine; decide), fun p3 H3 n3 e3 h3 => ?_⟩
          refine ⟨_, _, rfl, .inr (sqT h3), rfl, rfl, ?_⟩
          show N (.bl (inV (V.int k.2) ([1, (-1 : Int)].map V.int))) _
          rw [inV_int, ← ok]
          exact kN H3 e3
        · have z : ¬ 0 ≤ k.1 := of_decide_eq_false z
          rw [decide_eq_false z, Bool.false_and] at ok
          rw [ok] at kN
          exact kN H' (Evl.Ex.refl _)
      intro H2 e2 d2
      refine ⟨D2, ks.map okK, rfl, sqI d2, ?_⟩
      have : (ks.map okK).all id = ks.all okK := by rw [List.all_map]; rfl
      rw [this, ← ak]
      exact k H2 (e1.trans e2)
theorem ok_need_keys (T : Txt K mg) : FnOk PR w K mg base (L2.CX PR w) 3 T.a_need_keys T.d_need_keys ["sorting"] (sp_need_keys K) := by
  refine T.f_need_keys.okX sc_need_keys (fun vs H Q E h => ?_) (fun cdv A outer s H vs Q E hr h => ?_)
  · obtain ⟨p, ks, rfl, _⟩ := h
    rfl
  · obtain ⟨p, ks, rfl, hp, hl, ok, k⟩ := h
    refine ⟨_, (pss_one (ps_if (pt_not (pt_val (pe_call (ok_are_keys T) (hr.mono (by decide)) (by rfl) T.g_are_keys T.f_are_keys.kp (b_are_keys T) .nil pass0 (pa_cons (pv 0) pa_nil)))) (pss_one (ps_raise rfl (takes_of rfl rfl rfl rfl) (pmk_err (ok_init T) (b_init T) T.e_InvalidSorting (hr.mono (by decide)) (by rfl) T.g_InvalidSorting (pa_cons (pe_callTy call_listG (by rfl) T.z_list (by decide +kernel) (pa_cons (pv 0) pa_nil)) pa_nil)))) pss_nil)), ?_⟩
    refine ⟨_, rfl, p, ks, rfl, hp, hl, fun H1 e1 => ?_⟩
    rw [ok]
    exact ⟨_, rfl, ifF rfl (k H1 e1)⟩
theorem ok_after_click (T : Txt K mg) : FnOk PR w K mg base CX0 1 T.a_after_click T.d_after_click ["sorting", "column"] (sp_after_click K) := by
  refine T.f_after_click.ok sc_after_click (fun vs H Q E h => ?_) (fun cdv A outer s H vs Q E hr h => ?_)
  · obtain ⟨p, ks, c, rfl, _⟩ := h
    rfl
  · obtain ⟨p, ks, c, rfl, hp, hl, k⟩ := h
    refine ⟨_, (pss_cons (ps_if (PW.pt (pw_and (pt_cmpR (op_neD hr.units) (pv 0) (pe_lstG pa_nil) (nomark _)) (pw_and1 (pt_cmpR op_eq (pe_ix ix_tup (pe_ix ix_list (pv 0) pe_int (fun _ _ => rfl)) pe_int (fun _ _ => rfl)) (pv 1) (nomark _))))) (pss_one (ps_ret (pe_lstG (pa_cons (pe_tupG (pa_cons (pv 1) (pa_cons (pe_un un_neg (pe_ix ix_tup (pe_ix ix_list (pv 0) pe_int (fun _ _ => rfl)) pe_int (fun _ _ => rfl))) pa_nil))) (StX.pa_star (pe_slice sl_listG (pv 0) (po_some pe_int) po_none) pa_nil))))) pss_nil) (pss_one (ps_ret (pe_lstG (pa_cons (pe_tupG (pa_cons (pv 1) (pa_cons pe_int pa_nil))) (StX.pa_star (pe_lc (own := [("key", 2)]) (g := gName 2) (by rfl) sc_after_click.nd (pi_list (pv 0)) (blkOk_by (own := [("key", 2)]) (N := ["sorting", "column", "key"]) (sc := (defScope s_after_click)) (by decide +kernel)) (fun _ _ _ _ _ => (pg_name (i := 2) sc_after_click.nd rfl (by first | exact Or.inl rfl | exact Or.inr rfl))) (fun _ _ _ _ _ => (pts_one (pt_cmpR op_ne (pe_ix (ixK (r := rIxT) (K := K) (by rfl) ix_tup) (pv 2) pe_int (fun _ _ => rfl)) (pv 1) (nomark _)))) (fun _ _ _ _ _ => (pv 2))) pa_nil)))))), ?_⟩
    obtain ⟨us, hu, hk⟩ := id hp
    have ul := hk.1
    refine ⟨_, rfl, (by show 0 ≤ sizeLine; decide), fun p1 H1 n1 e1 h1 => ?_⟩
    refine neE (goodL goodK) (by decide) (x := ks) (y := []) (hp.ex e1).dp (nilD h1) ⟨_, rfl, ?_⟩
    have other : (∀ k0 r, ks = k0 :: r → k0.1 ≠ c) → click ks c = (c, 1) :: ks.filter (fun x => !decide (x.1 = c)) := fun h => by
      cases ks with
      | nil => rfl
      | cons k0 r => exact if_neg (h k0 r rfl)
    refine ifB (fun z => ?_) (fun z => ?_)
    · have ne : ks ≠ [] := by simpa using z
      obtain ⟨k0, r, rfl⟩ := optHead ne
      obtain ⟨u0, t, rfl⟩ : ∃ u0 t, us = u0 :: t := by
        cases us with
        | nil => cases ul
        | cons u t => exact ⟨u, t, rfl⟩
      obtain ⟨q0, e0, hq0⟩ := hk.2 0 u0 k0 rfl rfl
      subst e0
      have hq1 := Evl.ex_t e1 hq0
      refine ⟨_, rfl, _, _, _, _, rfl, rfl, sqI (e1 _ _ hu), at0, _, _, _, _, rfl, rfl, hq1, at0, _, rfl, rfl, _, rfl, ?_⟩
      rw [decInt]
      refine ifB (fun c1 => ?_) (fun c1 => ?_)
      · have ec : k0.1 = c := of_decide_eq_true c1
        refine ⟨_, rfl, _, rfl, _, _, _, _, rfl, rfl, sqI (e1 _ _ hu), at0, _, _, _, _, rfl, rfl, hq1, at1, _, rfl, (by show 2 ≤ sizeLine; decide), fun p2 H2 n2 e2 h2 => ?_⟩
        refine ⟨_, rfl, _, rfl, _, _, rfl, sqI ((e1.trans e2) _ _ hu), fun p3 H3 n3 e3 h3 => ?_⟩
        have ct : cutV (V.ref q0 :: t) (some 1) none = t := cut_from _ 1
        rw [ct] at h3
        refine ⟨p3, t, rfl, .inr (sqI h3), ?_, fun p4 H4 n4 e4 h4 => ?_⟩
        · simp only [List.length_cons] at ul hl
          show (V.ref p2 :: (t ++ [])).length ≤ sizeLine
          rw [List.append_nil, List.length_cons]
          exact Nat.le_trans (show _ ≤ 501 by omega) (by decide)
        have e14 := e2.trans (e3.trans e4)
        have e04 := e1.trans e14
        refine k p4 H4 (none_of (e1.trans (e2.trans e3)) n4) e04 ?_
        have cl : click (k0 :: r) c = (c, -k0.2) :: r := if_pos ec
        rw [cl]
        refine ⟨V.ref p2 :: t, ?_, ?_⟩
        · rw [h4]
          show some (HO.lst (V.ref p2 :: (t ++ []))) = _
          rw [List.append_nil]
        · have tl : KsAt K H4 t r := ⟨by simpa using ul, fun i v x h1 h2 => (hk.ex e04).2 (i + 1) v x h1 h2⟩
          exact (AllR.one (R := KyR K H4) ⟨p2, rfl, sqT ((e3.trans e4) _ _ h2)⟩).append tl
      · have nc : k0.1 ≠ c := of_decide_eq_false c1
        rw [other (fun k' r' e => by cases e; exact nc)] at k
        refine ⟨_, rfl, (by show 2 ≤ sizeLine; decide), fun p2 H2 n2 e2 h2 => ?_⟩
        have e12 := e1.trans e2
        refine ⟨_, rfl, p, rfl, ⟨_, sqI (e12 _ _ hu)⟩, fun D hD => lc_filtO (K := K) (a := p) (R := KyR K H2) (ys := k0 :: r) (p := fun x => !decide (x.1 = c)) (sqI (e12 _ _ hu)) (hk.ex e12) hD (by omega) (fun x => rfl) ?_ ?_ ?_⟩
        · rintro v y H' hy ⟨q, rfl, hq⟩ e' Z kZ
          refine ⟨_, rfl, _, _, _, _, rfl, rfl, Evl.ex_t e' hq, at0, _, rfl, rfl, _, rfl, ?_⟩
          rw [decInt]
          exact kZ H' (Evl.Ex.refl _)
        · intro v H' N kN
          exact ⟨_, rfl, kN⟩
        intro H3 us3 e3 d3 r3
        have l3 := r3.1
        have lf := List.length_filter_le (fun x : Ky => !decide (x.1 = c)) (k0 :: r)
        refine ⟨D, us3, rfl, .inr (sqI d3), ?_, fun p4 H4 n4 e4 h4 => ?_⟩
        · show (V.ref p2 :: (us3 ++ [])).length ≤ sizeLine
          rw [List.append_nil, List.length_cons]
          exact Nat.le_trans (show _ ≤ 501 by omega) (by decide)
        refine k p4 H4 (none_of (e12.trans e3) n4) (e12.trans (e3.trans e4)) ⟨V.ref p2 :: us3, ?_, ?_⟩
        · rw [h4]
          show some (HO.lst (V.ref p2 :: (us3 ++ []))) = _
          rw [List.append_nil]
        · exact (AllR.one (R := KyR K H4) ⟨p2, rfl, sqT ((e3.trans e4) _ _ h2)⟩).append (r3.mono fun v x r => r.ex (e3.trans e4))
    · have e : ks = [] := by simpa using z
      rw [other (fun k' r' h => by rw [e] at h; cases h)] at k
      refine ⟨_, rfl, (by show 2 ≤ sizeLine; decide), fun p2 H2 n2 e2 h2 => ?_⟩
      have e12 := e1.trans e2
      refine ⟨_, rfl, p, rfl, ⟨_, sqI (e12 _ _ hu)⟩, fun D hD => lc_filtO (K := K) (a := p) (R := KyR K H2) (ys := ks) (p := fun x => !decide (x.1 = c)) (sqI (e12 _ _ hu)) (hk.ex e12) hD (by omega) (fun x => rfl) ?_ ?_ ?_⟩
      · rintro v y H' hy ⟨q, rfl, hq⟩ e' Z kZ
        refine ⟨_, rfl, _, _, _, _, rfl, rfl, Evl.ex_t e' hq, at0, _, rfl, rfl, _, rfl, ?_⟩
        rw [decInt]
        exact kZ H' (Evl.Ex.refl _)
      · intro v H' N kN
        exact ⟨_, rfl, kN⟩
      intro H3 us3 e3 d3 r3
      have l3 := r3.1
      have lf := List.length_filter_le (fun x : Ky => !decide (x.1 = c)) ks
      refine ⟨D, us3, rfl, .inr (sqI d3), ?_, fun p4 H4 n4 e4 h4 => ?_⟩
      · show (V.ref p2 :: (us3 ++ [])).length ≤ sizeLine
        rw [List.append_nil, List.length_cons]
        exact Nat.le_trans (show _ ≤ 501 by omega) (by decide)
      refine k p4 H4 (none_of (e12.trans e3) n4) (e12.trans (e3.trans e4)) ⟨V.ref p2 :: us3, ?_, ?_⟩
      · rw [h4]
        show some (HO.lst (V.ref p2 :: (us3 ++ []))) = _
        rw [List.append_nil]
      · exact (AllR.one (R := KyR K H4) ⟨p2, rfl, sqT ((e3.trans e4) _ _ h2)⟩).append (r3.mono fun v x r => r.ex (e3.trans e4))
theorem ok_after_clicks (T : Txt K mg) : FnOk PR w K mg base CX0 2 T.a_after_clicks T.d_after_clicks ["sorting", "clicks"] (sp_after_clicks K) := by
  refine T.f_after_clicks.ok sc_after_clicks (fun vs H Q E h => ?_) (fun cdv A outer s H vs Q E hr h => ?_)
  · obtain ⟨p, a, ks, cs, rfl, _⟩ := h
    rfl
  · obtain ⟨p, a, ks, cs, rfl, hp, ha, hl, k⟩ := h
    refine ⟨_, (pss_cons (ps_set (i := 2) sc_after_clicks.nd rfl (by first | exact Or.inl rfl | exact Or.inr rfl) (pe_callTy call_listG (by rfl) T.z_list (by decide +kernel) (pa_cons (pv 0) pa_nil))) (pss_cons (ps_for PassesOwn.never rfl (pi_list (pv 1)) (pg_name (i := 3) sc_after_clicks.nd rfl (by first | exact Or.inl rfl | exact Or.inr rfl)) (pss_one (ps_set (i := 2) sc_after_clicks.nd rfl (by first | exact Or.inl rfl | exact Or.inr rfl) (pe_call (ok_after_click T) (hr.mono (by decide)) (by rfl) T.g_after_click T.f_after_click.kp (b_after_click T) .nil pass0 (pa_cons (pv 2) (pa_cons (pv 3) pa_nil)))))) (pss_one (ps_ret (pv 2))))), ?_⟩
    obtain ⟨us, hu, hk⟩ := id hp
    refine ⟨_, rfl, p, us, rfl, .inl (sqI hu), fun p1 H1 n1 e1 h1 => ?_⟩
    refine ⟨_, rfl, a, rfl, ⟨_, Evl.ex_l e1 ha⟩, for_it (walk_list (K := K) (a := a) (xs := cs.map V.int)) (fun i σ H' => ∃ (f : Addr) (v3 : Option V), σ = [some (.ref p), some (.ref a), some (.ref f), v3] ∧ H f = none ∧ Ex H H' ∧ LsK K H' f (afterL ks (cs.take i))) ⟨p1, _, rfl, n1, e1, us, h1, hk.ex e1⟩ (fun i σ H' _ ⟨_, _, _, _, e, _⟩ => Evl.ex_l e ha) ?_ ?_⟩
    · rintro i v σ HX H2 hi ⟨f, v3, rfl, nf, e2, hf⟩ ⟨rfl, hv⟩
      obtain ⟨c, hc, rfl⟩ := mapI_get hv
      have := after_len (cs.take i) ks
      rw [List.length_take] at this
      refine ⟨_, rfl, _, rfl, f, _, c, rfl, hf, by omega, fun p3 H3 n3 e3 h3 => ?_⟩
      exact ⟨p3, _, rfl, none_of e2 n3, e2.trans e3, by rw [take_after hc]; exact h3⟩
    · rintro σ H2 ⟨f, v3, rfl, nf, e2, hf⟩
      rw [List.length_map, List.take_length] at hf
      exact ⟨_, rfl, k f H2 nf e2 hf⟩
end
end K09
set_option Elab.async false
set_option pp.maxSteps 1200
set_option linter.all false
set_option maxRecDepth 100000
set_option maxHeartbeats 4000000
namespace K09
open PySem L2 My
theorem lastV {us : List V} {ks : List Ky} {K : PySem.W.Frag} {H : Hp} (h : KsAt K H us ks) (ne : ks ≠ []) : ∃ q l k, ks = l ++ [k] ∧ atI us (-1) = some (.ref q) ∧ SqT K H q [.int k.1, .int k.2] := by
  obtain ⟨l, k, rfl⟩ := snoc_of ne
  have ul := h.1
  have hk : (l ++ [k])[l.length]? = some k := by simp
  obtain ⟨v, hv, q, rfl, hq⟩ := h.row hk
  refine ⟨q, l, k, rfl, ?_, hq⟩
  rw [List.length_append] at ul
  have ul : us.length = l.length + 1 := ul
  have : us = us.take l.length ++ [.ref q] := by
    rw [← take_snoc hv, List.take_of_length_le (by omega)]
  rw [this]
  exact atI_last _ _
theorem cell_atN {cs : List Int} {i : Nat} (h : i < cs.length) : atI (cs.map V.int) ((i : Nat) : Int) = some (.int (cs.getD i 0)) := by
  refine at_of (j := i) rfl ?_
  rw [List.getElem?_map, List.getD_eq_getElem?_getD, List.getElem?_eq_getElem h]
  rfl
theorem cut_last (xs : List V) (n : Nat) (h : xs.length = n + 1) : cutV xs none (some (-1)) = xs.take n := by
  unfold cutV
  rw [HT.sIx_none]
  have : HT.sIx xs.length xs.length (some (-1)) = n := by
    unfold HT.sIx
    simp
    omega
  rw [this, List.drop_zero, Nat.sub_zero]
theorem restL_len (ks s : List Ky) : (restL ks s).length ≤ s.length := List.length_filter_le _ _
section
variable {w : World} {K : PySem.W.Frag} {mg : Str → Option Value} {base : Heap}
theorem ok_has_form (T : Txt K mg) : FnOk PR w K mg base CX0 2 T.a_has_form T.d_has_form ["form"] (sp_has_form K) := by
  refine T.f_has_form.ok sc_has_form (fun vs H Q E h => ?_) (fun cdv A outer s H vs Q E hr h => ?_)
  · obtain ⟨v, f, rfl, _⟩ := h
    rfl
  · obtain ⟨v, ⟨ks, b⟩, rfl, ⟨p, q, rfl, hp, hq⟩, hl, k⟩ := h
    refine ⟨_, (pss_cons (ps_asg (pv 0) (pg_tup rfl (pgs_cons (pg_name (i := 1) sc_has_form.nd rfl (by first | exact Or.inl rfl | exact Or.inr rfl)) (pgs_cons (pg_name (i := 2) sc_has_form.nd rfl (by first | exact Or.inl rfl | exact Or.inr rfl)) pgs_nil)))) (pss_cons (ps_if (pt_not (pt_val (pe_call (ok_are_keys T) (hr.mono (by decide)) (by rfl) T.g_are_keys T.f_are_keys.kp (b_are_keys T) .nil pass0 (pa_cons (pv 1) pa_nil)))) (pss_one (ps_ret pe_bl)) pss_nil) (pss_one (ps_ret (pe_or (pe_cmpR op_eq (pv 2) (pe_cmpR (op_neD hr.units) (pv 1) (pe_lstG pa_nil) (nomark _)) (nomark _)) (pe_one (pe_cmpR op_gt (pe_callB call_len_seq (by rfl) T.z_len PySem.boot_len (pa_cons (pv 1) pa_nil)) pe_int (nomark _)))))))), ?_⟩
    obtain ⟨us, hu, hk⟩ := id hq
    have ul : us.length = ks.length := hk.1
    refine ⟨_, rfl, _, _, rfl, hp, rfl, _, _, rfl, _, _, rfl, rfl, ?_⟩
    refine ⟨_, rfl, q, ks, rfl, hq, hl, fun H1 e1 => ?_⟩
    have hf : hasForm (ks, b) = (areKeys ks && (decide (b = decide (ks ≠ [])) || decide (ks.length > 1))) := rfl
    refine ⟨_, rfl, ?_⟩
    cases z : areKeys ks with
    | false =>
      rw [z, Bool.false_and] at hf
      rw [hf] at k
      exact ifT rfl (k H1 e1)
    | true =>
      rw [z, Bool.true_and] at hf
      refine ifF rfl ?_
      refine ⟨_, rfl, _, rfl, (by show 0 ≤ sizeLine; decide), fun p2 H2 n2 e2 h2 => ?_⟩
      refine neE (goodL goodK) (by decide) (x := ks) (y := []) (hq.ex (e1.trans e2)).dp (nilD h2) ?_
      have eb : (!decide (ks = [])) = decide (ks ≠ []) := by simp
      rw [eb]
      refine ⟨rfl, _, rfl, ?_⟩
      rw [decBl]
      refine ifB (fun c => ?_) (fun c => ?_)
      · rw [c, Bool.true_or] at hf
        rw [hf] at k
        exact k H2 (e1.trans e2)
      · rw [c, Bool.false_or] at hf
        rw [hf] at k
        refine ⟨_, rfl, _, _, rfl, .inl (Evl.ex_l (e1.trans e2) hu), _, _, rfl, rfl, ?_⟩
        have : decide (((us.length : Nat) : Int) > 1) = decide (ks.length > 1) := by
          rw [decide_eq_decide]
          omega
        show Q (.bl (decide (((us.length : Nat) : Int) > 1))) H2
        rw [this]
        exact k H2 (e1.trans e2)
theorem ok_is_form (T : Txt K mg) : FnOk PR w K mg base CX0 3 T.a_is_form T.d_is_form ["form"] (sp_has_form K) := by
  refine T.f_is_form.ok sc_is_form (fun vs H Q E h => ?_) (fun cdv A outer s H vs Q E hr h => ?_)
  · obtain ⟨v, f, rfl, _⟩ := h
    rfl
  · obtain ⟨v, f, rfl, hf, hl, k⟩ := h
    refine ⟨_, (pss_one (ps_ret (pe_call (ok_has_form T) (hr.mono (by decide)) (by rfl) T.g_has_form T.f_has_form.kp (b_has_form T) .nil pass0 (pa_cons (pv 0) pa_nil)))), ?_⟩
    exact ⟨_, rfl, v, f, rfl, hf, hl, k⟩
theorem ok_need_form (T : Txt K mg) : FnOk PR w K mg base (L2.CX PR w) 3 T.a_need_form T.d_need_form ["form"] (sp_need_form K) := by
  refine T.f_need_form.okX sc_need_form (fun vs H Q E h => ?_) (fun cdv A outer s H vs Q E hr h => ?_)
  · obtain ⟨v, f, rfl, _⟩ := h
    rfl
  · obtain ⟨v, f, rfl, hf, hl, ok, k⟩ := h
    refine ⟨_, (pss_one (ps_if (pt_not (pt_val (pe_call (ok_has_form T) (hr.mono (by decide)) (by rfl) T.g_has_form T.f_has_form.kp (b_has_form T) .nil pass0 (pa_cons (pv 0) pa_nil)))) (pss_one (ps_raise rfl (takes_of rfl rfl rfl rfl) (pmk_err (ok_init T) (b_init T) T.e_InvalidSorting (hr.mono (by decide)) (by rfl) T.g_InvalidSorting (pa_cons (pe_tupG (pa_cons (pe_callTy call_listG (by rfl) T.z_list (by decide +kernel) (pa_cons (pe_ix ix_tup (pv 0) pe_int (fun _ _ => rfl)) pa_nil)) (pa_cons (pe_ix ix_tup (pv 0) pe_int (fun _ _ => rfl)) pa_nil))) pa_nil)))) pss_nil)), ?_⟩
    refine ⟨_, rfl, v, f, rfl, hf, hl, fun H1 e1 => ?_⟩
    rw [ok]
    exact ⟨_, rfl, ifF rfl (k H1 e1)⟩
theorem ok_columns_of (T : Txt K mg) : FnOk PR w K mg base CX0 1 T.a_columns_of T.d_columns_of ["keys"] (sp_columns_of K) := by
  refine T.f_columns_of.ok sc_columns_of (fun vs H Q E h => ?_) (fun cdv A outer s H vs Q E hr h => ?_)
  · obtain ⟨p, ks, rfl, _⟩ := h
    rfl
  · obtain ⟨p, ks, rfl, ⟨us, hp, hk⟩, hl, k⟩ := h
    refine ⟨_, (pss_one (ps_ret (pe_lc (own := [("column", 1), ("sign", 2)]) (g := (gTup K 2 (gCons (gName 1) (gCons (gName 2) gNil)))) (by rfl) sc_columns_of.nd (pi_list (pv 0)) (blkOk_by (own := [("column", 1), ("sign", 2)]) (N := ["keys", "column", "sign"]) (sc := (defScope s_columns_of)) (by decide +kernel)) (fun _ _ _ _ _ => (pg_tup rfl (pgs_cons (pg_name (i := 1) sc_columns_of.nd rfl (by first | exact Or.inl rfl | exact Or.inr rfl)) (pgs_cons (pg_name (i := 2) sc_columns_of.nd rfl (by first | exact Or.inl rfl | exact Or.inr rfl)) pgs_nil)))) (fun _ _ _ _ _ => pts_nil) (fun _ _ _ _ _ => (pv 1))))), ?_⟩
    have ul := hk.1
    refine ⟨_, rfl, p, rfl, ⟨_, sqI hp⟩, fun D hD => lc_mapG (K := K) (a := p) (ys := (cols ks).map V.int) (sqI hp) hD (by simp [cols, ul]) (Nat.le_trans (show us.length ≤ 500 by omega) (by decide)) ?_ ?_⟩
    · intro i x y H' e' hx hy N Z kN
      obtain ⟨k, hki, q, rfl, hq⟩ := hk.get hx
      have hy' : (cols ks)[i]? = some k.1 := by unfold cols; rw [List.getElem?_map, hki]; rfl
      rw [List.getElem?_map, hy'] at hy
      cases hy
      refine ⟨_, _, rfl, Evl.ex_t e' hq, rfl, _, _, rfl, _, _, rfl, rfl, rfl, ?_⟩
      show _
      exact ⟨_, rfl, kN H' (Evl.Ex.refl _)⟩
    intro H1 e1 d1
    exact k D H1 hD e1 d1
theorem ok_is_left_alone (T : Txt K mg) : FnOk PR w K mg base CX0 1 T.a_is_left_alone T.d_is_left_alone ["clicks"] (sp_is_left_alone K) := by
  refine T.f_is_left_alone.ok sc_is_left_alone (fun vs H Q E h => ?_) (fun cdv A outer s H vs Q E hr h => ?_)
  · obtain ⟨a, cs, rfl, _⟩ := h
    rfl
  · obtain ⟨a, cs, rfl, ha, hl, k⟩ := h
    refine ⟨_, (pss_cons (ps_set (i := 1) sc_is_left_alone.nd rfl (by first | exact Or.inl rfl | exact Or.inr rfl) pe_int) (pss_cons (ps_while PassesOwn.never (PW.pt (pw_and (pt_cmpR op_lt (pv 1) (pe_callB call_len_seq (by rfl) T.z_len PySem.boot_len (pa_cons (pv 0) pa_nil)) (nomark _)) (pw_and1 (pt_cmpR op_eq (pe_ix ix_list (pv 0) (pv 1) (fun _ _ => rfl)) (pe_ix ix_list (pv 0) pe_int (fun _ _ => rfl)) (nomark _))))) (pss_one (ps_set (i := 1) sc_is_left_alone.nd rfl (by first | exact Or.inl rfl | exact Or.inr rfl) (pe_op op_add (pv 1) pe_int)))) (pss_one (ps_ret (pe_and (pe_cmpR (op_neD hr.units) (pv 0) (pe_lstG pa_nil) (nomark _)) (pe_one (pe_cmpR op_notIn_seq (pe_ix ix_list (pv 0) pe_int (fun _ _ => rfl)) (pe_slice sl_listG (pv 0) (po_some (pv 1)) po_none) (by rfl)))))))), ?_⟩
    let P := fun c : Int => decide (c = cs.getD 0 0)
    have dw : ∀ i, i < cs.length → (∀ x ∈ cs.take i, P x = true) → ∀ c, cs[i]? = some c → P c = false → cs.dropWhile P = cs.drop i := fun i hi hx c hc pc => by
      have : cs = cs.take i ++ cs.drop i := (List.take_append_drop i cs).symm
      have hd : cs.drop i = c :: cs.drop (i + 1) := by
        rw [List.drop_eq_getElem_cons hi]
        congr 1
        exact (List.getElem?_eq_some_iff.mp hc).2
      have go : ∀ l m : List Int, (∀ x ∈ l, P x = true) → (l ++ c :: m).dropWhile P = c :: m := fun l m => by
        induction l with
        | nil => intro _; rw [List.nil_append, List.dropWhile_cons, pc]; rfl
        | cons x l ih =>
          intro h
          rw [List.cons_append, List.dropWhile_cons, h x List.mem_cons_self]
          exact ih fun y hy => h y (List.mem_cons_of_mem _ hy)
      have e := go (cs.take i) (cs.drop (i + 1)) hx
      rw [← hd, List.take_append_drop] at e
      exact e
    have fin : ∀ i, i ≤ cs.length → cs.dropWhile P = cs.drop i → True → leftAlone cs = (decide (cs ≠ []) && !decide (cs.getD 0 0 ∈ cs.drop i)) := fun i hi hd _ => by
      cases cs with
      | nil => rfl
      | cons c0 r =>
        show (!decide (c0 ∈ (c0 :: r).dropWhile (fun c => decide (c = c0)))) = (true && !decide (c0 ∈ (c0 :: r).drop i))
        rw [Bool.true_and, ← hd]
        rfl
    refine ⟨fun m σ' H' => ∃ i : Nat, m = cs.length - i ∧ i ≤ cs.length ∧ σ' = [some (.ref a), some (.int (i : Nat))] ∧ H' = H ∧ ∀ x ∈ cs.take i, P x = true, ⟨_, 0, rfl, Nat.zero_le _, rfl, rfl, fun x hx => by cases hx⟩, ?_⟩
    rintro m σ' H' ⟨i, rfl, hi, rfl, rfl, hx⟩
    refine ⟨_, rfl, _, rfl, _, _, rfl, .inl ha, _, _, rfl, rfl, _, rfl, ?_⟩
    rw [List.length_map]
    refine ifB (fun c => ?_) (fun c => ?_)
    · have il : i < cs.length := by
        have := of_decide_eq_true c
        omega
      have c0 : cs[0]? = some (cs[0]'(by omega)) := List.getElem?_eq_getElem (by omega)
      have ci : cs[i]? = some (cs[i]'il) := List.getElem?_eq_getElem il
      have g0 : cs.getD 0 0 = cs[0]'(by omega) := by rw [List.getD_eq_getElem?_getD, c0]; rfl
      refine ⟨_, rfl, _, rfl, _, _, _, _, rfl, rfl, ha, cell_atN il, _, rfl, _, _, _, _, rfl, rfl, ha, cell_atN (i := 0) (by omega), rfl, _, rfl, ?_⟩
      rw [decInt]
      refine ifB (fun d => ?_) (fun d => ?_)
      · refine ⟨fun σ'' H'' => ∃ m', m' < cs.length - i ∧ ∃ i : Nat, m' = cs.length - i ∧ i ≤ cs.length ∧ σ'' = [some (.ref a), some (.int (i : Nat))] ∧ H'' = H' ∧ ∀ x ∈ cs.take i, P x = true, fun _ _ h => h, ?_⟩
        refine ⟨_, rfl, _, _, rfl, rfl, cs.length - (i + 1), by omega, i + 1, rfl, il, rfl, rfl, fun x hx' => ?_⟩
        rw [take_snoc ci] at hx'
        rcases List.mem_append.mp hx' with z | z
        · exact hx x z
        · rw [List.mem_singleton.mp z]
          have d := of_decide_eq_true d
          show decide (cs[i] = cs.getD 0 0) = true
          refine decide_eq_true ?_
          rw [List.getD_eq_getElem?_getD, ci] at d
          exact d
      · have pf : P (cs[i]'il) = false := by
          have d := of_decide_eq_false d
          show decide (cs[i] = cs.getD 0 0) = false
          refine decide_eq_false fun z => d ?_
          rw [List.getD_eq_getElem?_getD, ci]
          exact z
        have e := fin i hi (dw i il hx _ ci pf) trivial
        refine ⟨_, rfl, (by show 0 ≤ sizeLine; decide), fun p2 H2 n2 e2 h2 => ?_⟩
        refine neI_ (Evl.ex_l e2 ha) (ys := []) (sqI h2) ⟨_, rfl, ?_⟩
        have ne : cs ≠ [] := fun z => by rw [z] at il; exact absurd il (Nat.not_lt_zero _)
        refine ifT (by simp [ne]) ?_
        refine ⟨_, rfl, _, _, _, _, rfl, rfl, Evl.ex_l e2 ha, cell_atN (i := 0) (by omega), _, rfl, _, rfl, _, rfl, _, _, rfl, Evl.ex_l e2 ha, fun p3 H3 n3 e3 h3 => ?_⟩
        rw [cut_from, ← List.map_drop] at h3
        refine ⟨_, _, rfl, .inl (sqI h3), rfl, flatI _, ?_⟩
        show Q (.bl (!inV (V.int (cs.getD 0 0)) ((cs.drop i).map V.int))) _
        rw [inV_int]
        rw [decide_eq_true ne, Bool.true_and] at e
        rw [← e]
        exact k H3 (e2.trans e3)
    · have il : i = cs.length := by
        have := of_decide_eq_false c
        omega
      subst il
      have e := fin cs.length (Nat.le_refl _) (by
        rw [List.drop_length]
        rw [List.take_length] at hx
        have : ∀ l : List Int, (∀ x ∈ l, P x = true) → l.dropWhile P = [] := fun l => by
          induction l with
          | nil => intro _; rfl
          | cons x l ih =>
            intro h
            rw [List.dropWhile_cons, h x List.mem_cons_self]
            exact ih fun y hy => h y (List.mem_cons_of_mem _ hy)
        exact this cs hx) trivial
      refine ⟨_, rfl, (by show 0 ≤ sizeLine; decide), fun p2 H2 n2 e2 h2 => ?_⟩
      refine neI_ (Evl.ex_l e2 ha) (ys := []) (sqI h2) ⟨_, rfl, ?_⟩
      by_cases ne : cs = []
      · refine ifF (by simp [ne]) ?_
        rw [e] at k
        have : (decide (cs ≠ []) && !decide (cs.getD 0 0 ∈ cs.drop cs.length)) = false := by simp [ne]
        rw [this] at k
        exact k H2 e2
      · refine ifT (by simp [ne]) ?_
        have lp : 0 < cs.length := List.length_pos_iff.mpr ne
        refine ⟨_, rfl, _, _, _, _, rfl, rfl, Evl.ex_l e2 ha, cell_atN (i := 0) (by omega), _, rfl, _, rfl, _, rfl, _, _, rfl, Evl.ex_l e2 ha, fun p3 H3 n3 e3 h3 => ?_⟩
        rw [cut_from, ← List.map_drop] at h3
        refine ⟨_, _, rfl, .inl (sqI h3), rfl, flatI _, ?_⟩
        show Q (.bl (!inV (V.int (cs.getD 0 0)) ((cs.drop cs.length).map V.int))) _
        rw [inV_int]
        rw [decide_eq_true ne, Bool.true_and] at e
        rw [← e]
        exact k H3 (e2.trans e3)
theorem ok_made_form (T : Txt K mg) : FnOk PR w K mg base CX0 3 T.a_made_form T.d_made_form ["clicks"] (sp_made_form K) := by
  refine T.f_made_form.ok sc_made_form (fun vs H Q E h => ?_) (fun cdv A outer s H vs Q E hr h => ?_)
  · obtain ⟨a, cs, rfl, _⟩ := h
    rfl
  · obtain ⟨a, cs, rfl, ha, hl, h0, k⟩ := h
    refine ⟨_, (pss_one (ps_ret (pe_tupG (pa_cons (pe_call (ok_after_clicks T) (hr.mono (by decide)) (by rfl) T.g_after_clicks T.f_after_clicks.kp (b_after_clicks T) .nil pass0 (pa_cons (pe_lstG pa_nil) (pa_cons (pv 0) pa_nil))) (pa_cons (pe_call (ok_is_left_alone T) (hr.mono (by decide)) (by rfl) T.g_is_left_alone T.f_is_left_alone.kp (b_is_left_alone T) .nil pass0 (pa_cons (pv 0) pa_nil)) pa_nil))))), ?_⟩
    refine ⟨(by show 0 ≤ sizeLine; decide), fun p1 H1 n1 e1 h1 => ?_⟩
    refine ⟨_, rfl, p1, a, [], cs, rfl, ⟨[], h1, AllR.nil⟩, Evl.ex_l e1 ha, by simpa using hl, fun q H2 n2 e2 h2 => ?_⟩
    refine ⟨_, rfl, a, cs, rfl, Evl.ex_l (e1.trans e2) ha, hl, fun H3 e3 => ?_⟩
    refine ⟨(by show 2 ≤ sizeLine; decide), fun p4 H4 n4 e4 h4 => ?_⟩
    exact k _ H4 (e1.trans (e2.trans (e3.trans e4))) ⟨p4, q, rfl, h4, h2.ex (e3.trans e4)⟩
theorem ok_form_of (T : Txt K mg) : FnOk PR w K mg base (L2.CX PR w) 4 T.a_form_of T.d_form_of ["clicks"] (sp_made_form K) := by
  refine T.f_form_of.okX sc_form_of (fun vs H Q E h => ?_) (fun cdv A outer s H vs Q E hr h => ?_)
  · obtain ⟨a, cs, rfl, _⟩ := h
    rfl
  · obtain ⟨a, cs, rfl, ha, hl, h0, k⟩ := h
    refine ⟨_, (pss_cons (ps_for (passes_of rfl) rfl (pi_list (pv 0)) (pg_name (i := 1) sc_form_of.nd rfl (by first | exact Or.inl rfl | exact Or.inr rfl)) (pss_one (ps_if (pt_cmpR op_lt (pv 1) pe_int (nomark _)) (pss_one (ps_raise rfl (takes_of rfl rfl rfl rfl) (pmk_err (ok_init T) (b_init T) T.e_InvalidColumn (hr.mono (by decide)) (by rfl) T.g_InvalidColumn (pa_cons (pv 1) pa_nil)))) pss_nil))) (pss_one (ps_ret (pe_call (ok_made_form T) (hr.mono (by decide)) (by rfl) T.g_made_form T.f_made_form.kp (b_made_form T) .nil pass0 (pa_cons (pv 0) pa_nil))))), ?_⟩
    refine ⟨_, rfl, a, rfl, ⟨_, ha⟩, for_list (K := K) (a := a) (xs := cs.map V.int) (fun i σ H' => ∃ v, σ = [some (.ref a), v] ∧ H' = H) ⟨_, rfl, rfl⟩ (fun i σ H' _ ⟨_, _, e⟩ => e ▸ ha) ?_ ?_⟩
    · rintro i x σ H' hi ⟨v, rfl, rfl⟩
      obtain ⟨t, ht, rfl⟩ := mapI_get hi
      have := h0 t (List.mem_of_getElem? ht)
      exact ⟨_, rfl, _, _, rfl, rfl, _, rfl, ifF (decide_eq_false (by omega)) ⟨_, rfl, rfl⟩⟩
    · rintro σ H' ⟨v, rfl, rfl⟩
      exact ⟨_, rfl, a, cs, rfl, ha, hl, h0, k⟩
theorem ok_made_of (T : Txt K mg) : FnOk PR w K mg base CX0 2 T.a_made_of T.d_made_of ["form", "sorting"] (sp_made_of K) := by
  refine T.f_made_of.ok sc_made_of (fun vs H Q E h => ?_) (fun cdv A outer s H vs Q E hr h => ?_)
  · obtain ⟨v, p, f, s, rfl, _⟩ := h
    rfl
  · obtain ⟨v, p, ⟨ks, b⟩, s, rfl, ⟨fp, q, rfl, hfp, hq⟩, hp, hl, hs, hb, k⟩ := h
    refine ⟨_, (pss_cons (ps_asg (pv 0) (pg_tup rfl (pgs_cons (pg_name (i := 2) sc_made_of.nd rfl (by first | exact Or.inl rfl | exact Or.inr rfl)) (pgs_cons (pg_name (i := 3) sc_made_of.nd rfl (by first | exact Or.inl rfl | exact Or.inr rfl)) pgs_nil)))) (pss_cons (ps_setLc (i := 4) (own := [("key", 5)]) (g := gName 5) (by rfl) sc_made_of.nd rfl rfl (sw_true rfl rfl rfl (by decide +kernel)) (pi_list (pv 1)) (blkOk_by (own := [("key", 5)]) (N := ["form", "sorting", "keys", "bound", "rest", "key"]) (sc := (defScope s_made_of)) (by decide +kernel)) (fun _ _ _ _ _ => (pg_name (i := 5) sc_made_of.nd rfl (by first | exact Or.inl rfl | exact Or.inr rfl))) (fun _ _ _ _ _ => (pts_one (pt_cmpR (opK (r := fun K => rIn K true) (K := K) (by rfl) op_notIn_seq) (pe_ix (ixK (r := rIxT) (K := K) (by rfl) ix_tup) (pv 5) pe_int (fun _ _ => rfl)) (pe_call (ok_columns_of T) (hr.mono (by decide)) (by rfl) T.g_columns_of T.f_columns_of.kp (b_columns_of T) .nil pass0 (pa_cons (pv 2) pa_nil)) (by rfl)))) (fun _ _ _ _ _ => (pv 5))) (pss_cons (ps_if (PW.pt (pw_and (pt_val (pv 3)) (pw_and (pt_cmpR (op_neD hr.units) (pv 1) (pe_lstG pa_nil) (nomark _)) (pw_and1 (pt_cmpR (op_eqD hr.units) (pe_ix ix_list (pv 1) pe_int (fun _ _ => rfl)) (pe_tupG (pa_cons (pe_ix ix_tup (pe_ix ix_list (pv 2) (pe_un un_neg pe_int) (fun _ _ => rfl)) pe_int (fun _ _ => rfl)) (pa_cons pe_int pa_nil))) (nomark _)))))) (pss_one (ps_ret (pe_op op_catG (pe_op op_catG (pe_slice sl_listG (pv 2) po_none (po_some (pe_un un_neg pe_int))) (pe_lstG (pa_cons (pe_tupG (pa_cons (pe_ix ix_tup (pe_ix ix_list (pv 2) (pe_un un_neg pe_int) (fun _ _ => rfl)) pe_int (fun _ _ => rfl)) (pa_cons (pe_un un_neg (pe_ix ix_tup (pe_ix ix_list (pv 2) (pe_un un_neg pe_int) (fun _ _ => rfl)) pe_int (fun _ _ => rfl))) pa_nil))) pa_nil))) (pv 4)))) pss_nil) (pss_one (ps_ret (pe_op op_catG (pv 2) (pv 4))))))), ?_⟩
    obtain ⟨uk, hu, hk⟩ := id hq
    obtain ⟨us, hus, hks⟩ := id hp
    have ukl := hk.1
    have usl := hks.1
    have hb : b = true → ks ≠ [] := hb
    refine ⟨_, rfl, _, _, rfl, sqT hfp, rfl, _, _, rfl, _, _, rfl, rfl, ?_⟩
    refine ⟨_, rfl, p, rfl, ⟨_, sqI hus⟩, fun R hR => lc_filtO (K := K) (a := p) (R := KyR K H) (ys := s) (p := fun k => !decide (k.1 ∈ cols ks)) (sqI hus) hks hR (by omega) (fun x => rfl) ?_ ?_ ?_⟩
    · rintro v y H' hy ⟨qy, rfl, hqy⟩ e' Z kZ
      refine ⟨_, rfl, _, _, _, _, rfl, rfl, Evl.ex_t e' hqy, at0, _, rfl, q, ks, rfl, hq.ex e', hl, fun p2 H2 n2 e2 h2 => ?_⟩
      refine ⟨_, _, rfl, .inl (sqI h2), rfl, flatI _, _, rfl, ?_⟩
      show Z (!inV (V.int y.1) ((cols ks).map V.int)) _
      rw [inV_int]
      exact kZ H2 e2
    · intro v H' N kN
      exact ⟨_, rfl, kN⟩
    intro H1 ur e1 r1 a1
    have a1 : KsAt K H1 ur (restL ks s) := AllR.mono a1 fun v x r => r.ex e1
    have rl := a1.1
    have rll := restL_len ks s
    have plain : hit (ks, b) s = false → ∀ {H2 : Hp}, Ex H1 H2 → ∀ p2, H2 p2 = none → ∀ H3, Ex H2 H3 → H3 p2 = some (.lst (uk ++ ur)) → Q (.ref p2) H3 := fun hh H2 e2 p2 n2 H3 e3 h3 => by
      have : madeOf (ks, b) s = ks ++ restL ks s := by
        unfold madeOf fl
        rw [hh]
        rfl
      rw [this] at k
      exact k p2 H3 (none_of (e1.trans e2) n2) (e1.trans (e2.trans e3)) ⟨_, h3, (hk.ex (e1.trans (e2.trans e3))).append (a1.ex (e2.trans e3))⟩
    have go : hit (ks, b) s = false → ∀ {H2 : Hp}, Ex H1 H2 → (H2 q = some (.lst uk) ∧ H2 R = some (.lst ur) ∧ uk.length + ur.length ≤ sizeLine) := fun _ H2 e2 => ⟨(e1.trans e2) _ _ hu, e2 _ _ r1, Nat.le_trans (show _ ≤ 1000 by omega) (by decide)⟩
    have hitE : hit (ks, b) s = (b && decide (s.head? = some (lastC ks, 1))) := rfl
    refine ⟨_, rfl, _, rfl, ?_⟩
    cases b with
    | false =>
      have hh : hit (ks, false) s = false := rfl
      obtain ⟨g1, g2, g3⟩ := go hh (Evl.Ex.refl H1)
      refine iteF ?_
      exact ⟨_, rfl, _, rfl, _, _, _, _, rfl, rfl, g1, g2, g3, fun p2 H2 n2 e2 h2 => plain hh (Evl.Ex.refl _) p2 n2 H2 e2 h2⟩
    | true =>
      refine iteT ?_
      rw [Bool.true_and] at hitE
      refine ⟨_, rfl, (by show 0 ≤ sizeLine; decide), fun p2 H2 n2 e2 h2 => ?_⟩
      refine neE (goodL goodK) (by decide) (x := s) (y := []) (hp.ex (e1.trans e2)).dp (nilD h2) ⟨_, rfl, ?_⟩
      refine ifB (fun c => ?_) (fun c => ?_)
      · have sne : s ≠ [] := by simpa using c
        have kne := hb rfl
        obtain ⟨k0, r, rfl⟩ := optHead sne
        obtain ⟨u0, ut, rfl⟩ : ∃ u0 t, us = u0 :: t := by
          cases us with
          | nil => cases usl
          | cons u t => exact ⟨u, t, rfl⟩
        obtain ⟨q0, e0, hq0⟩ := hks.2 0 u0 k0 rfl rfl
        subst e0
        have e02 := e1.trans e2
        obtain ⟨ql, l, kl, el, al, hql⟩ := lastV (hk.ex e02) kne
        have el : ks = l ++ [kl] := el
        have lc : lastC ks = kl.1 := by rw [el, last_snoc]
        refine ⟨_, rfl, _, _, _, _, rfl, rfl, sqI (e02 _ _ hus), at0, _, rfl, _, rfl, _, _, _, _, rfl, rfl, sqI (e02 _ _ hu), al, _, _, _, _, rfl, rfl, hql, at0, (by show 2 ≤ sizeLine; decide), fun p3 H3 n3 e3 h3 => ?_⟩
        have dq : Dp K H3 (.ref q0) (eK k0) := .tup (Evl.ex_t (e02.trans e3) hq0) (.cons (.int _) (.cons (.int _) .nil))
        have dp : Dp K H3 (.ref p3) (eK (kl.1, 1)) := .tup (sqT h3) (.cons (.int _) (.cons (.int _) .nil))
        refine eqE goodK (by decide) dq dp ⟨_, rfl, ?_⟩
        have e13 := e2.trans e3
        have e03 := e1.trans e13
        have hh : hit (ks, true) (k0 :: r) = decide (k0 = (kl.1, 1)) := by
          rw [hitE, lc]
          show decide (some k0 = some (kl.1, 1)) = _
          rw [decide_eq_decide, Option.some.injEq]
        refine ifB (fun d => ?_) (fun d => ?_)
        · have hh : hit (ks, true) (k0 :: r) = true := hh.trans d
          refine ⟨_, rfl, _, rfl, _, rfl, _, _, rfl, sqI (e03 _ _ hu), fun p4 H4 n4 e4 h4 => ?_⟩
          have cu : cutV uk none (some (-1)) = uk.take l.length := cut_last _ _ (by rw [ukl, el, List.length_append]; rfl)
          rw [cu] at h4
          have e04 := e03.trans e4
          refine ⟨_, rfl, _, rfl, _, _, _, _, rfl, rfl, sqI (e04 _ _ hu), al, _, _, _, _, rfl, rfl, Evl.ex_t (e3.trans e4) hql, at0, _, rfl, _, rfl, _, _, _, _, rfl, rfl, sqI (e04 _ _ hu), al, _, _, _, _, rfl, rfl, Evl.ex_t (e3.trans e4) hql, at1, _, rfl, (by show 2 ≤ sizeLine; decide), fun p5 H5 n5 e5 h5 => ?_⟩
          refine ⟨(by show 1 ≤ sizeLine; decide), fun p6 H6 n6 e6 h6 => ?_⟩
          refine ⟨_, _, _, _, rfl, rfl, (e5.trans e6) _ _ h4, h6, ?_, fun p7 H7 n7 e7 h7 => ?_⟩
          · rw [List.length_take]
            exact Nat.le_trans (show _ ≤ 501 by show min _ _ + 1 ≤ 501; omega) (by decide)
          have e17 := e13.trans (e4.trans (e5.trans (e6.trans e7)))
          refine ⟨_, rfl, _, _, _, _, rfl, rfl, h7, e17 _ _ r1, ?_, fun p8 H8 n8 e8 h8 => ?_⟩
          · rw [List.length_append, List.length_take]
            exact Nat.le_trans (show _ ≤ 1001 by show min _ _ + 1 + _ ≤ 1001; omega) (by decide)
          have e08 := e1.trans (e17.trans e8)
          refine k p8 H8 (none_of (e1.trans e17) n8) e08 ⟨_, h8, ?_⟩
          have em : madeOf (ks, true) (k0 :: r) = l ++ [(kl.1, -kl.2)] ++ restL ks (k0 :: r) := by
            unfold madeOf fl
            rw [hh, if_pos rfl]
            show flipL ks ++ _ = _
            rw [el, flip_snoc]
          rw [em]
          have t1 : KsAt K H8 (uk.take l.length) l := by
            have := (hk.ex e08).take l.length
            have tl : ks.take l.length = l := by rw [el]; simp
            rw [tl] at this
            exact this
          have t2 : KsAt K H8 [.ref p5] [(kl.1, -kl.2)] := AllR.one ⟨p5, rfl, sqT ((e6.trans (e7.trans e8)) _ _ h5)⟩
          exact (t1.append t2).append (a1.ex (e17.trans e8))
        · have hh : hit (ks, true) (k0 :: r) = false := hh.trans d
          obtain ⟨g1, g2, g3⟩ := go hh e13
          exact ⟨_, rfl, _, rfl, _, _, _, _, rfl, rfl, g1, g2, g3, fun p4 H4 n4 e4 h4 => plain hh e13 p4 n4 H4 e4 h4⟩
      · have e : s = [] := by simpa using c
        have hh : hit (ks, true) s = false := by rw [hitE, e]; simp
        obtain ⟨g1, g2, g3⟩ := go hh e2
        exact ⟨_, rfl, _, rfl, _, _, _, _, rfl, rfl, g1, g2, g3, fun p4 H4 n4 e4 h4 => plain hh e2 p4 n4 H4 e4 h4⟩
theorem ok_formed (T : Txt K mg) : FnOk PR w K mg base (L2.CX PR w) 4 T.a_formed T.d_formed ["form", "sorting"] (sp_formed K) := by
  refine T.f_formed.okX sc_formed (fun vs H Q E h => ?_) (fun cdv A outer s H vs Q E hr h => ?_)
  · obtain ⟨v, p, f, s, rfl, _⟩ := h
    rfl
  · obtain ⟨v, p, f, s, rfl, hf, hp, hl, hs, h1, h2, hb, k⟩ := h
    refine ⟨_, (pss_cons (ps_expr (pe_call (ok_need_form T) (hr.mono (by decide)) (by rfl) T.g_need_form T.f_need_form.kp (b_need_form T) .nil passX (pa_cons (pv 0) pa_nil))) (pss_cons (ps_expr (pe_call (ok_need_keys T) (hr.mono (by decide)) (by rfl) T.g_need_keys T.f_need_keys.kp (b_need_keys T) .nil passX (pa_cons (pv 1) pa_nil))) (pss_one (ps_ret (pe_call (ok_made_of T) (hr.mono (by decide)) (by rfl) T.g_made_of T.f_made_of.kp (b_made_of T) .nil pass0 (pa_cons (pv 0) (pa_cons (pv 1) pa_nil))))))), ?_⟩
    refine ⟨_, rfl, v, f, rfl, hf.q, hl, h1, fun H1 e1 => ?_⟩
    refine ⟨_, rfl, p, s, rfl, (hp.ex e1).q, hs, h2, fun H2 e2 => ?_⟩
    have e02 := e1.trans e2
    exact ⟨_, rfl, _, rfl, v, p, f, s, rfl, hf.ex e02, hp.ex e02, hl, hs, hb, fun q H3 n3 e3 h3 => k q H3 (none_of e02 n3) (e02.trans e3) h3⟩
theorem ok_alike (T : Txt K mg) : FnOk PR w K mg base (L2.CX PR w) 5 T.a_alike T.d_alike ["one", "other"] (sp_alike K) := by
  refine T.f_alike.okX sc_alike (fun vs H Q E h => ?_) (fun cdv A outer s H vs Q E hr h => ?_)
  · obtain ⟨a, b, cs, ds, rfl, _⟩ := h
    rfl
  · obtain ⟨a, b, cs, ds, rfl, ha, hb, hl, hm, h0, h1, k⟩ := h
    refine ⟨_, (pss_one (ps_ret (pe_cmpR (op_eqD hr.units) (pe_call (ok_form_of T) (hr.mono (by decide)) (by rfl) T.g_form_of T.f_form_of.kp (b_form_of T) .nil passX (pa_cons (pv 0) pa_nil)) (pe_call (ok_form_of T) (hr.mono (by decide)) (by rfl) T.g_form_of T.f_form_of.kp (b_form_of T) .nil passX (pa_cons (pv 1) pa_nil)) (nomark _)))), ?_⟩
    refine ⟨_, rfl, a, cs, rfl, ha, hl, h0, fun v1 H1 e1 f1 => ?_⟩
    refine ⟨_, rfl, b, ds, rfl, Evl.ex_l e1 hb, hm, h1, fun v2 H2 e2 f2 => ?_⟩
    exact eqE goodF (by decide) (f1.ex e2).dp f2.dp (k H2 (e1.trans e2))
theorem ok_first_apart (T : Txt K mg) : FnOk PR w K mg base (L2.CX PR w) 5 T.a_first_apart T.d_first_apart ["one", "other"] (sp_first_apart K) := by
  refine T.f_first_apart.okX sc_first_apart (fun vs H Q E h => ?_) (fun cdv A outer s H vs Q E hr h => ?_)
  · obtain ⟨a, b, cs, ds, rfl, _⟩ := h
    rfl
  · obtain ⟨a, b, cs, ds, rfl, ha, hb, hl, hm, h0, h1, k⟩ := h
    refine ⟨_, (pss_cons (ps_par (by rfl) sc_first_apart.nd rfl rfl (by decide) rfl rfl (i := 2) (j := 3) (pa_cons (pe_call (ok_form_of T) (hr.mono (by decide)) (by rfl) T.g_form_of T.f_form_of.kp (b_form_of T) .nil passX (pa_cons (pv 0) pa_nil)) (pa_cons (pe_call (ok_form_of T) (hr.mono (by decide)) (by rfl) T.g_form_of T.f_form_of.kp (b_form_of T) .nil passX (pa_cons (pv 1) pa_nil)) pa_nil)) (by rfl)) (pss_cons (ps_if (pt_cmpR (op_eqD hr.units) (pv 2) (pv 3) (nomark _)) (pss_one (ps_ret pe_non)) pss_nil) (pss_cons (ps_if (pt_cmpR (op_neD hr.units) (pe_ix ix_tup (pv 2) pe_int (fun _ _ => rfl)) (pe_ix ix_tup (pv 3) pe_int (fun _ _ => rfl)) (nomark _)) (pss_one (ps_ret (pe_lstG pa_nil))) pss_nil) (pss_one (ps_ret (pe_lstG (pa_cons (pe_tupG (pa_cons (pe_ix ix_tup (pe_ix ix_list (pe_ix ix_tup (pv 2) pe_int (fun _ _ => rfl)) (pe_un un_neg pe_int) (fun _ _ => rfl)) pe_int (fun _ _ => rfl)) (pa_cons pe_int pa_nil))) pa_nil))))))), ?_⟩
    refine ⟨_, rfl, a, cs, rfl, ha, hl, h0, fun v1 H1 e1 f1 => ?_⟩
    refine ⟨_, rfl, b, ds, rfl, Evl.ex_l e1 hb, hm, h1, fun v2 H2 e2 f2 => ?_⟩
    have f1 := f1.ex e2
    have e02 := e1.trans e2
    refine ⟨_, _, rfl, ?_⟩
    refine ⟨_, rfl, _, rfl, eqE goodF (by decide) f1.dp f2.dp ⟨_, rfl, ?_⟩⟩
    unfold firstA at k
    refine ifB (fun c => ?_) (fun c => ?_)
    · rw [if_pos (of_decide_eq_true c)] at k
      exact k _ H2 e02 rfl
    · have ne := of_decide_eq_false c
      rw [if_neg ne] at k
      obtain ⟨p1, q1, rfl, hp1, hq1⟩ := id f1
      obtain ⟨p2, q2, rfl, hp2, hq2⟩ := id f2
      refine ⟨_, rfl, _, _, _, _, rfl, rfl, sqT hp1, at0, _, rfl, _, _, _, _, rfl, rfl, sqT hp2, at0, neE (goodL goodK) (by decide) hq1.dp hq2.dp ⟨_, rfl, ?_⟩⟩
      refine ifB (fun d => ?_) (fun d => ?_)
      · have d : (formL cs).1 ≠ (formL ds).1 := by simpa using d
        rw [if_pos d] at k
        exact ⟨(by show 0 ≤ sizeLine; decide), fun p3 H3 n3 e3 h3 => k _ H3 (e02.trans e3) ⟨p3, rfl, [], h3, AllR.nil⟩⟩
      · have d : (formL cs).1 = (formL ds).1 := by simpa using d
        rw [if_neg (not_not_intro d)] at k
        have kne : (formL cs).1 ≠ [] := fun z => ne (by rw [form_nil z, form_nil (d ▸ z)])
        obtain ⟨uk, hu, hk⟩ := id hq1
        obtain ⟨ql, l, kl, el, al, hql⟩ := lastV hk kne
        have lc : lastC (formL cs).1 = kl.1 := by rw [el, last_snoc]
        rw [lc] at k
        refine ⟨_, rfl, _, _, _, _, rfl, rfl, sqT hp1, at0, _, rfl, _, _, _, _, rfl, rfl, sqI hu, al, _, _, _, _, rfl, rfl, hql, at0, (by show 2 ≤ sizeLine; decide), fun p3 H3 n3 e3 h3 => ?_⟩
        refine ⟨(by show 1 ≤ sizeLine; decide), fun p4 H4 n4 e4 h4 => ?_⟩
        exact k _ H4 (e02.trans (e3.trans e4)) ⟨p4, rfl, _, h4, AllR.one ⟨p3, rfl, sqT (e4 _ _ h3)⟩⟩
end
end K09
set_option Elab.async false
set_option pp.maxSteps 1200
set_option linter.all false
set_option maxRecDepth 100000
set_option maxHeartbeats 4000000
namespace K09
open PySem L2 My
/-! ### the deck: so many draws are mixed at most -/
def Deck (H : Hp) (j : Addr) (n : Int) : Prop := ∃ x y z : Int, H j = some (.lst [.int x, .int y, .int z]) ∧ 0 ≤ y ∧ y < 2 ^ 140 ∧ 0 ≤ z ∧ z ≤ n
theorem Deck.ex {H H' : Hp} {j : Addr} {n : Int} (e : Ex H H') : Deck H j n → Deck H' j n
  | ⟨x, y, z, h, r⟩ => ⟨x, y, z, e _ _ h, r⟩
theorem Deck.mono {H : Hp} {j : Addr} {n m : Int} (l : n ≤ m) : Deck H j n → Deck H j m
  | ⟨x, y, z, h, a, b, c, d⟩ => ⟨x, y, z, h, a, b, c, by omega⟩
theorem Deck.at {H : Hp} {j : Addr} {n : Int} (h : Deck H j n) : ∃ ys, H j = some (.lst ys) := let ⟨_, _, _, h, _⟩ := h; ⟨_, h⟩
theorem Deck.ne {H : Hp} {j p : Addr} {n : Int} (h : Deck H j n) (e : H p = none) : p ≠ j := by
  obtain ⟨ys, ho⟩ := h.at
  exact (ne_of_none ho e).symm
theorem Deck.upd {H : Hp} {j p : Addr} {o : HO} {n : Int} (ne : p ≠ j) : Deck H j n → Deck (L2.upd H p o) j n
  | ⟨x, y, z, h, r⟩ => ⟨x, y, z, by rw [upd_ne ne.symm]; exact h, r⟩
theorem _root_.My.Exj.back {j p : Addr} {H H' : Hp} (e : Exj j H H') (n : p ≠ j) (h : H' p = none) : H p = none := by
  cases q : H p with
  | none => rfl
  | some o =>
    rw [e p o n q] at h
    cases h
def Many (w : Int) (cs : List Int) : Prop := ∀ c ∈ cs, 0 ≤ c ∧ c < w
def sp__law_open (K : PySem.W.Frag) : Sp := fun vs H Q _ => ∃ (a : Addr) (ns : List Int) (k : Int), vs = [.ref a, .int k] ∧ SqL K H a (ns.map V.int) ∧ 0 ≤ k ∧ k ≤ 100 ∧ ∀ (p : Addr) (H' : Hp), H p = none → Ex H H' → Deck H' p 0 → Q (.ref p) H'
def sp__law_draw : Sp := fun vs H Q _ => ∃ (j : Addr) (many n : Int), vs = [.ref j, .int many] ∧ Deck H j n ∧ n ≤ 1000000 ∧ 0 < many ∧ many < 2 ^ 200 ∧ ∀ (d : Int) (H' : Hp), 0 ≤ d → d < many → Exj j H H' → Deck H' j (n + 1) → Q (.int d) H'
def sp__law_clicks : Sp := fun vs H Q _ => ∃ (j : Addr) (w most n : Int), vs = [.ref j, .int w, .int most] ∧ Deck H j n ∧ n ≤ 900000 ∧ 1 ≤ w ∧ w ≤ 100 ∧ 0 ≤ most ∧ most ≤ 60 ∧
  ∀ (p : Addr) (cs : List Int) (H' : Hp), H p = none → p ≠ j → Exj j H H' → Deck H' j (n + 200) → H' p = some (.lst (cs.map V.int)) → (cs.length : Int) ≤ most → Many w cs → Q (.ref p) H'
def sp__law_keys (K : PySem.W.Frag) : Sp := fun vs H Q _ => ∃ (j : Addr) (w : Nat) (n : Int), vs = [.ref j, .int (w : Nat)] ∧ Deck H j n ∧ n ≤ 900000 ∧ w ≤ 5 ∧
  ∀ (p : Addr) (ks : List Ky) (H' : Hp), H p = none → p ≠ j → Exj j H H' → Deck H' j (n + 20) → LsK K H' p ks → ks.length ≤ w → Vd ks → Many w (cols ks) → Q (.ref p) H'
def sp__law_other : Sp := fun vs H Q _ => ∃ (j a : Addr) (w n : Int) (cs : List Int), vs = [.ref j, .int w, .ref a] ∧ Deck H j n ∧ n ≤ 800000 ∧ 1 ≤ w ∧ w ≤ 100 ∧ H a = some (.lst (cs.map V.int)) ∧ a ≠ j ∧ cs.length ≤ 20 ∧ Many w cs ∧
  ∀ (p : Addr) (ds : List Int) (H' : Hp), H p = none → p ≠ j → Exj j H H' → Deck H' j (n + 300) → H' p = some (.lst (ds.map V.int)) → ds.length ≤ 30 → Many w ds → Q (.ref p) H'
theorem at2' {α : Type} {a b c : α} {l : List α} : atI (a :: b :: c :: l) 2 = some c := atI_nat (j := 2) rfl
theorem rgo (n : Nat) (h : n ≤ 1000) : RgOk 0 (n : Int) := RgOk.of_le (by omega) (by omega) (by omega) (by omega)
theorem erase_perm {α : Type} : ∀ {ls : List α} {k : Nat} {y : α}, ls[k]? = some y → (y :: ls.eraseIdx k).Perm ls
  | a :: ls, 0, y, h => by
    cases h
    exact List.Perm.refl _
  | a :: ls, k + 1, y, h => by
    have ih := erase_perm (ls := ls) (k := k) (y := y) h
    show (y :: a :: ls.eraseIdx k).Perm (a :: ls)
    exact (List.Perm.swap a y _).trans (ih.cons a)
theorem map_erase {α β : Type} (f : α → β) : ∀ (l : List α) (k : Nat), (l.map f).eraseIdx k = (l.eraseIdx k).map f
  | [], _ => rfl
  | _ :: _, 0 => rfl
  | a :: l, k + 1 => by
    show f a :: (l.map f).eraseIdx k = f a :: (l.eraseIdx k).map f
    rw [map_erase f l k]
section
variable {w : World} {K : PySem.W.Frag} {mg : Str → Option Value} {base : Heap}
theorem ok__law_open (T : Txt K mg) : FnOk PR w K mg base CX0 1 T.a__law_open T.d__law_open ["_law_script", "_law_k"] (sp__law_open K) := by
  refine T.f__law_open.ok sc__law_open (fun vs H Q E h => ?_) (fun cdv A outer s H vs Q E hr h => ?_)
  · obtain ⟨a, ns, k, rfl, _⟩ := h
    rfl
  · obtain ⟨a, ns, n, rfl, hs, n0, n1, k⟩ := h
    refine ⟨_, (pss_cons (ps_set (i := 2) sc__law_open.nd rfl (by first | exact Or.inl rfl | exact Or.inr rfl) pe_int) (pss_cons (ps_cut (ps_if (pt_cmpR op_lt (pv 1) (pe_callB call_len_seq (by rfl) T.z_len PySem.boot_len (pa_cons (pv 0) pa_nil)) (nomark _)) (pss_one (ps_set (i := 2) sc__law_open.nd rfl (by first | exact Or.inl rfl | exact Or.inr rfl) (pe_ix ix_list (pv 0) (pv 1) (fun _ _ => rfl)))) pss_nil)) (pss_cons (ps_set (i := 3) sc__law_open.nd rfl (by first | exact Or.inl rfl | exact Or.inr rfl) (pe_op op_add (pe_op op_add (pe_op op_mod (pe_callTy call_int1 (by rfl) T.z_int (by decide +kernel) (pa_cons (pe_op op_add (pe_op op_mul pe_int (pe_callB call_abs (by rfl) T.z_abs (by decide +kernel) (pa_cons (pv 2) pa_nil))) (pe_callTy call_int1 (by rfl) T.z_int (by decide +kernel) (pa_cons (pe_cmpR op_lt (pv 2) pe_int (nomark _)) pa_nil))) pa_nil)) (pe_op op_add (pe_op op_powW pe_int pe_int) pe_int)) (pe_op op_mul pe_int (pv 1))) pe_int)) (pss_one (ps_ret (pe_lstG (pa_cons (pe_callB (call_max2 rfl) (by rfl) T.z_max (by decide +kernel) (pa_cons pe_int (pa_cons (pe_op op_sub (pv 2) (pe_op op_powW pe_int pe_int)) pa_nil))) (pa_cons (pv 3) (pa_cons pe_int pa_nil))))))))), ?_⟩
    refine ⟨fun σ H' => H' = H ∧ ∃ c : Int, σ = [some (.ref a), some (.int n), some (.int c), none], ?_, ?_⟩
    · refine ⟨_, rfl, _, rfl, _, _, rfl, .inl hs, _, _, rfl, rfl, _, rfl, ?_⟩
      refine ifB (fun c => ?_) (fun c => ⟨rfl, _, rfl⟩)
      have c' : n < ((ns.map V.int).length : Int) := of_decide_eq_true c
      rw [List.length_map] at c'
      have hx : ns[n.toNat]? = some (ns[n.toNat]'(by omega)) := List.getElem?_eq_getElem (by omega)
      exact ⟨_, rfl, _, rfl, _, _, _, _, rfl, rfl, hs, at_of (j := n.toNat) (by omega) (by rw [List.getElem?_map, hx]; rfl), rfl, _, rfl⟩
    · rintro σ H' ⟨rfl, c, rfl⟩
      refine ⟨_, rfl, _, rfl, _, _, rfl, rfl, .inl ⟨by omega, by omega⟩, _, rfl, _, _, rfl, rfl, .inr ⟨_, rfl, ?_⟩⟩
      refine ⟨_, _, rfl, rfl, .inl ⟨_, rfl, ?_⟩⟩
      have ep : (10 : Int) ^ (39 : Int).toNat = 1000000000000000000000000000000000000000 := by decide +kernel
      refine ⟨_, _, rfl, rfl, (show CPowW 10 39 by constructor <;> decide +kernel), _, _, rfl, rfl, _, _, rfl, rfl, (show (0 : Int) < 10 ^ (39 : Int).toNat + 3 by decide +kernel), _, rfl, _, _, rfl, rfl, .inl ⟨by omega, by omega⟩, _, _, rfl, rfl, _, _, rfl, rfl, ?_⟩
      refine ⟨_, rfl, _, _, rfl, rfl, (show CPowW 10 18 by constructor <;> decide +kernel), _, _, rfl, rfl, _, _, rfl, _, rfl, (by show 3 ≤ sizeLine; decide), fun p1 H1 n1 e1 h1 => ?_⟩
      refine k p1 H1 n1 e1 ⟨_, _, _, h1, ?_, ?_, Int.le_refl _, Int.le_refl _⟩
      · rw [ep]
        have := Int.emod_nonneg (2 * (if c < 0 then -c else c) + (if decide (c < 0) = true then 1 else 0)) (show (1000000000000000000000000000000000000000 + 3 : Int) ≠ 0 by decide)
        omega
      · rw [ep]
        have := Int.emod_lt_of_pos (2 * (if c < 0 then -c else c) + (if decide (c < 0) = true then 1 else 0)) (show (0 : Int) < 1000000000000000000000000000000000000000 + 3 by decide)
        omega
theorem ok__law_draw (T : Txt K mg) : FnOk PR w K mg base CX0 1 T.a__law_draw T.d__law_draw ["_law_deck", "_law_many"] sp__law_draw := by
  refine T.f__law_draw.ok sc__law_draw (fun vs H Q E h => ?_) (fun cdv A outer s H vs Q E hr h => ?_)
  · obtain ⟨j, many, n, rfl, _⟩ := h
    rfl
  · obtain ⟨j, many, n, rfl, ⟨x, y, z, hj, y0, y1, z0, z1⟩, hn, m0, m1, k⟩ := h
    refine ⟨_, (pss_cons (ps_if (pt_cmpR op_gt (pe_ix ix_list (pv 0) pe_int (fun _ _ => rfl)) pe_int (nomark _)) (pss_cons (ps_set (i := 2) sc__law_draw.nd rfl (by first | exact Or.inl rfl | exact Or.inr rfl) (pe_op op_mod (pe_callTy call_int1 (by rfl) T.z_int (by decide +kernel) (pa_cons (pe_ix ix_list (pv 0) pe_int (fun _ _ => rfl)) pa_nil)) (pv 1))) (pss_cons (ps_asg (pe_op op_fdivW (pe_ix ix_list (pv 0) pe_int (fun _ _ => rfl)) (pv 1)) (pg_sub (pv 0) pe_int set_list)) (pss_one (ps_ret (pv 2))))) pss_nil) (pss_cons (ps_asg (pe_op op_add (pe_ix ix_list (pv 0) pe_int (fun _ _ => rfl)) pe_int) (pg_sub (pv 0) pe_int set_list)) (pss_cons (ps_set (i := 3) sc__law_draw.nd rfl (by first | exact Or.inl rfl | exact Or.inr rfl) (pe_op op_mod (pe_callTy call_int1 (by rfl) T.z_int (by decide +kernel) (pa_cons (pe_op op_add (pe_op op_mul (pe_ix ix_list (pv 0) pe_int (fun _ _ => rfl)) (pe_op op_add pe_int (pe_op op_mul pe_int (pe_ix ix_list (pv 0) pe_int (fun _ _ => rfl))))) (pe_op op_mul (pe_op op_mul pe_int (pe_ix ix_list (pv 0) pe_int (fun _ _ => rfl))) (pe_ix ix_list (pv 0) pe_int (fun _ _ => rfl)))) pa_nil)) pe_int)) (pss_cons (ps_set (i := 3) sc__law_draw.nd rfl (by first | exact Or.inl rfl | exact Or.inr rfl) (pe_op op_mod (pe_callTy call_int1 (by rfl) T.z_int (by decide +kernel) (pa_cons (pe_op op_add (pe_op op_add (pe_op op_mul (pv 3) (pv 3)) (pe_op op_mul pe_int (pe_ix ix_list (pv 0) pe_int (fun _ _ => rfl)))) (pe_ix ix_list (pv 0) pe_int (fun _ _ => rfl))) pa_nil)) pe_int)) (pss_cons (ps_set (i := 3) sc__law_draw.nd rfl (by first | exact Or.inl rfl | exact Or.inr rfl) (pe_op op_mod (pe_callTy call_int1 (by rfl) T.z_int (by decide +kernel) (pa_cons (pe_op op_add (pe_op op_mul (pe_op op_mul (pv 3) (pv 3)) (pv 3)) (pe_op op_mul pe_int (pe_ix ix_list (pv 0) pe_int (fun _ _ => rfl)))) pa_nil)) pe_int)) (pss_one (ps_ret (pe_op op_mod (pe_callTy call_int1 (by rfl) T.z_int (by decide +kernel) (pa_cons (pe_op op_fdivW (pv 3) pe_int) pa_nil)) (pv 1))))))))), ?_⟩
    have sq : ∀ {H' : Hp} {l : List V}, H' j = some (.lst l) → SqL K H' j l := fun h => sqI h
    have m2 : many.natAbs < 2 ^ 200 := by omega
    refine ⟨_, rfl, _, _, _, _, rfl, rfl, sq hj, at0, _, _, rfl, rfl, _, rfl, ?_⟩
    refine ite2 (fun c => ?_) (fun c => ?_)
    · refine ⟨_, rfl, _, _, _, _, rfl, rfl, sq hj, at0, .inl ⟨_, rfl, ?_⟩⟩
      refine ⟨_, rfl, _, _, rfl, rfl, m0, ?_⟩
      refine ⟨_, rfl, _, _, _, _, rfl, rfl, sq hj, at0, _, rfl, _, _, rfl, rfl, wide_div m0 m2 (by decide) (by decide), _, rfl, _, _, _, _, rfl, rfl, hj, (show _ = some 0 from rfl), ?_⟩
      refine ⟨_, rfl, ?_⟩
      exact k _ _ (Int.emod_nonneg _ (by omega)) (Int.emod_lt_of_pos _ m0) (Exj.refl _ _).upd ⟨_, y, z, upd_same, y0, y1, z0, by omega⟩
    · refine ⟨_, rfl, _, _, _, _, rfl, rfl, sq hj, at2', _, _, rfl, rfl, _, rfl, _, _, _, _, rfl, rfl, hj, (show _ = some 2 from rfl), ?_⟩
      have hj1 : upd H j (.lst ([V.int x, .int y, .int z].set 2 (.int (z + 1)))) j = some (.lst [.int x, .int y, .int (z + 1)]) := upd_same
      have ej : Exj j H (upd H j (.lst ([V.int x, .int y, .int z].set 2 (.int (z + 1))))) := (Exj.refl _ _).upd
      generalize upd H j (.lst ([V.int x, .int y, .int z].set 2 (.int (z + 1)))) = H1 at hj1 ej ⊢
      refine ⟨_, rfl, _, _, _, _, rfl, rfl, sq hj1, at1, _, rfl, _, _, _, _, rfl, rfl, sq hj1, at2', _, _, rfl, rfl, .inl ⟨by decide, by decide⟩, _, _, rfl, rfl, _, _, rfl, rfl, .inr ⟨by omega, by omega⟩, _, rfl, _, _, _, _, rfl, rfl, sq hj1, at2', _, _, rfl, rfl, .inl ⟨by decide, by decide⟩, _, rfl, _, _, _, _, rfl, rfl, sq hj1, at2', _, _, rfl, rfl, .inl ⟨by omega, by omega⟩, _, _, rfl, rfl, .inl ⟨_, rfl, ?_⟩⟩
      refine ⟨_, _, rfl, rfl, (show (0 : Int) < 1000000000000000003 by decide), ?_⟩
      have b1 : ∀ {u v : Int}, CMul (v % 1000000000000000003) u := fun {u v} => .inl ⟨by omega, by omega⟩
      refine ⟨_, rfl, _, rfl, _, _, rfl, rfl, b1, _, rfl, _, _, _, _, rfl, rfl, sq hj1, at2', _, _, rfl, rfl, .inl ⟨by decide, by decide⟩, _, _, rfl, rfl, _, rfl, _, _, _, _, rfl, rfl, sq hj1, at1, _, _, rfl, rfl, .inl ⟨_, rfl, ?_⟩⟩
      refine ⟨_, _, rfl, rfl, (show (0 : Int) < 2305843009213693951 by decide), ?_⟩
      have b2 : ∀ {u v : Int}, CMul (v % 2305843009213693951) u := fun {u v} => .inl ⟨by omega, by omega⟩
      have b3 : ∀ {u v : Int}, CMul u (v % 2305843009213693951) := fun {u v} => .inr ⟨by omega, by omega⟩
      refine ⟨_, rfl, _, rfl, _, _, rfl, rfl, b2, _, rfl, _, _, rfl, rfl, b3, _, rfl, _, _, _, _, rfl, rfl, sq hj1, at2', _, _, rfl, rfl, .inl ⟨by decide, by decide⟩, _, _, rfl, rfl, .inl ⟨_, rfl, ?_⟩⟩
      refine ⟨_, _, rfl, rfl, (show (0 : Int) < 1000000000000000009 by decide), ?_⟩
      refine ⟨_, rfl, _, _, rfl, rfl, wide_div (b := 20) (by decide) (by decide) (by decide) (by decide), .inl ⟨_, rfl, ?_⟩⟩
      refine ⟨_, rfl, _, _, rfl, rfl, m0, ?_⟩
      exact k _ _ (Int.emod_nonneg _ (by omega)) (Int.emod_lt_of_pos _ m0) ej ⟨x, y, z + 1, hj1, y0, y1, by omega, by omega⟩
theorem ok__law_clicks (T : Txt K mg) : FnOk PR w K mg base CX0 2 T.a__law_clicks T.d__law_clicks ["_law_deck", "_law_width", "_law_most"] sp__law_clicks := by
  refine T.f__law_clicks.ok sc__law_clicks (fun vs H Q E h => ?_) (fun cdv A outer s H vs Q E hr h => ?_)
  · obtain ⟨j, w, most, n, rfl, _⟩ := h
    rfl
  · obtain ⟨j, w, most, n, rfl, hj, hn, w0, w1, m0, m1, k⟩ := h
    refine ⟨_, (pss_cons (ps_set (i := 3) sc__law_clicks.nd rfl (by first | exact Or.inl rfl | exact Or.inr rfl) (pe_lstG pa_nil)) (pss_cons (ps_for PassesOwn.never rfl (pi_range1 (by rfl) T.z_range (pa_cons (pe_call (ok__law_draw T) (hr.mono (by decide)) (by rfl) T.g__law_draw T.f__law_draw.kp (b__law_draw T) .nil pass0 (pa_cons (pv 0) (pa_cons (pe_op op_add (pv 2) pe_int) pa_nil))) pa_nil)) (pg_name (i := 4) sc__law_clicks.nd rfl (by first | exact Or.inl rfl | exact Or.inr rfl)) (pss_cons (ps_set (i := 5) sc__law_clicks.nd rfl (by first | exact Or.inl rfl | exact Or.inr rfl) (pe_call (ok__law_draw T) (hr.mono (by decide)) (by rfl) T.g__law_draw T.f__law_draw.kp (b__law_draw T) .nil pass0 (pa_cons (pv 0) (pa_cons (pv 1) pa_nil)))) (pss_cons (ps_cut (ps_if (PW.pt (pw_and (pt_cmpR (op_neD hr.units) (pv 3) (pe_lstG pa_nil) (nomark _)) (pw_and1 (pt_cmpR op_eq (pe_call (ok__law_draw T) (hr.mono (by decide)) (by rfl) T.g__law_draw T.f__law_draw.kp (b__law_draw T) .nil pass0 (pa_cons (pv 0) (pa_cons pe_int pa_nil))) pe_int (nomark _))))) (pss_one (ps_set (i := 5) sc__law_clicks.nd rfl (by first | exact Or.inl rfl | exact Or.inr rfl) (pe_ix ix_list (pv 3) (pe_un un_neg pe_int) (fun _ _ => rfl)))) pss_nil)) (pss_one (ps_expr (pe_bm PySem.F.plainAttrs_list PySem.F.slot_list_append PySem.F.type_list_append mt_append (pv 3) (pa_cons (pv 5) pa_nil))))))) (pss_one (ps_ret (pv 3))))), ?_⟩
    refine ⟨(by show 0 ≤ sizeLine; decide), fun F H1 nF e1 hF => ?_⟩
    have nFj := hj.ne nF
    refine ⟨_, rfl, _, rfl, _, _, rfl, rfl, j, _, n, rfl, hj.ex e1, by omega, by omega, by omega, fun d H2 d0 d1 e2 j2 => ?_⟩
    refine ⟨_, rfl, by omega, by omega, for_range (lo := 0) (n := d.toNat) (fun i σ H' => ∃ (v4 v5 : Option V) (cs : List Int), σ = [some (.ref j), some (.int w), some (.int most), some (.ref F), v4, v5] ∧ Exj j H H' ∧ Deck H' j (n + 1 + 2 * i) ∧ H' F = some (.lst (cs.map V.int)) ∧ cs.length = i ∧ Many w cs) ⟨_, _, [], rfl, (Exj.of e1).trans e2, j2.mono (by omega), e2 _ _ nFj hF, rfl, fun c hc => by cases hc⟩ ?_ ?_⟩
    · rintro i σ H3 hi ⟨v4, v5, cs, rfl, e3, j3, f3, cl, mc⟩
      refine ⟨_, rfl, _, rfl, j, _, _, rfl, j3, by omega, by omega, by omega, fun c H4 c0 c1 e4 j4 => ?_⟩
      have f4 := e4 _ _ nFj f3
      refine ⟨fun σ' H' => ∃ (c' : Int), σ' = [some (.ref j), some (.int w), some (.int most), some (.ref F), some (.int (0 + (i : Int))), some (.int c')] ∧ 0 ≤ c' ∧ c' < w ∧ Exj j H4 H' ∧ Deck H' j (n + 1 + 2 * i + 2), ?_, ?_⟩
      · refine ⟨_, rfl, (by show 0 ≤ sizeLine; decide), fun p5 H5 n5 e5 h5 => ?_⟩
        refine neI_ (sqI (e5 _ _ f4)) (ys := []) (sqI h5) ⟨_, rfl, ?_⟩
        refine ifB (fun cc => ?_) (fun cc => ⟨c, rfl, c0, c1, Exj.of e5, (j4.ex e5).mono (by omega)⟩)
        have ne : cs ≠ [] := by simpa using cc
        refine ⟨_, rfl, j, _, _, rfl, j4.ex e5, by omega, by decide, by decide, fun d3 H6 d3a d3b e6 j6 => ?_⟩
        refine ⟨rfl, _, rfl, ?_⟩
        have y6 : Exj j H4 H6 := (Exj.of e5).trans e6
        refine ifB (fun c2 => ?_) (fun c2 => ⟨c, rfl, c0, c1, y6, j6.mono (by omega)⟩)
        obtain ⟨l, x, rfl⟩ : ∃ l x, cs = l ++ [x] := ⟨_, _, (List.dropLast_concat_getLast ne).symm⟩
        have f6 := y6 _ _ nFj f4
        have al : atI ((l ++ [x]).map V.int) (-1) = some (.int x) := by
          rw [List.map_append]
          exact atI_last _ _
        have bx := mc x (by simp)
        exact ⟨_, rfl, _, rfl, _, _, _, _, rfl, rfl, sqI f6, al, x, rfl, bx.1, bx.2, y6, j6.mono (by omega)⟩
      · rintro σ' H5 ⟨c', rfl, c0', c1', e5, j5⟩
        have f5 := e5 _ _ nFj f4
        refine ⟨_, rfl, .inl ⟨rfl, _, sqI f5⟩, _, rfl, _, _, _, rfl, rfl, f5, ?_, ?_⟩
        · rw [List.length_map, cl]
          exact Nat.lt_of_lt_of_le (show i < 100 by omega) (by decide)
        · refine ⟨_, _, cs ++ [c'], rfl, ?_, (j5.mono (by omega)).upd nFj, ?_, by simp [cl], fun x hx => ?_⟩
          · intro b o nb hb
            rw [upd_ne (ne_of_none hb nF)]
            exact e5 _ _ nb (e4 _ _ nb (e3 _ _ nb hb))
          · rw [upd_same, List.map_append]
            rfl
          · rcases List.mem_append.mp hx with z | z
            · exact mc x z
            · rw [List.mem_singleton.mp z]; exact ⟨c0', c1'⟩
    · rintro σ H3 ⟨v4, v5, cs, rfl, e3, j3, f3, cl, mc⟩
      exact ⟨_, rfl, k F cs H3 nF nFj e3 (j3.mono (by omega)) f3 (by omega) mc⟩
theorem ok__law_keys (T : Txt K mg) : FnOk PR w K mg base CX0 2 T.a__law_keys T.d__law_keys ["_law_deck", "_law_width"] (sp__law_keys K) := by
  refine T.f__law_keys.ok sc__law_keys (fun vs H Q E h => ?_) (fun cdv A outer s H vs Q E hr h => ?_)
  · obtain ⟨j, w, n, rfl, _⟩ := h
    rfl
  · obtain ⟨j, w, n, rfl, hj, hn, w1, k⟩ := h
    refine ⟨_, (pss_cons (ps_set (i := 2) sc__law_keys.nd rfl (by first | exact Or.inl rfl | exact Or.inr rfl) (pe_listRgG (by rfl) (by rfl) T.z_list (prg_1 (by rfl) T.z_range (pv 1)))) (pss_cons (ps_set (i := 3) sc__law_keys.nd rfl (by first | exact Or.inl rfl | exact Or.inr rfl) (pe_lstG pa_nil)) (pss_cons (ps_for PassesOwn.never rfl (pi_range1 (by rfl) T.z_range (pa_cons (pe_call (ok__law_draw T) (hr.mono (by decide)) (by rfl) T.g__law_draw T.f__law_draw.kp (b__law_draw T) .nil pass0 (pa_cons (pv 0) (pa_cons (pe_op op_add (pv 1) pe_int) pa_nil))) pa_nil)) (pg_name (i := 4) sc__law_keys.nd rfl (by first | exact Or.inl rfl | exact Or.inr rfl)) (pss_one (ps_expr (pe_bm PySem.F.plainAttrs_list PySem.F.slot_list_append PySem.F.type_list_append mt_append (pv 3) (pa_cons (pe_tupG (pa_cons (pe_bm PySem.F.plainAttrs_list PySem.F.slot_list_pop PySem.F.type_list_pop mt_popAt (pv 2) (pa_cons (pe_call (ok__law_draw T) (hr.mono (by decide)) (by rfl) T.g__law_draw T.f__law_draw.kp (b__law_draw T) .nil pass0 (pa_cons (pv 0) (pa_cons (pe_callB call_len_seq (by rfl) T.z_len PySem.boot_len (pa_cons (pv 2) pa_nil)) pa_nil))) pa_nil)) (pa_cons (pe_ix ix_list (pe_lstG (pa_cons pe_int (pa_cons (pe_un un_neg pe_int) pa_nil))) (pe_call (ok__law_draw T) (hr.mono (by decide)) (by rfl) T.g__law_draw T.f__law_draw.kp (b__law_draw T) .nil pass0 (pa_cons (pv 0) (pa_cons pe_int pa_nil))) (fun _ _ => rfl)) pa_nil))) pa_nil))))) (pss_one (ps_ret (pv 3)))))), ?_⟩
    refine ⟨_, rfl, _, rfl, rgo w (by omega), fun L H1 nL e1 hL => ?_⟩
    have hL : H1 L = some (.lst ((upN w).map V.int)) := by rw [hL, rgV_upN]
    refine ⟨(by show 0 ≤ sizeLine; decide), fun F H2 nF e2 hF => ?_⟩
    have nLj := hj.ne nL
    have nFj := (hj.ex e1).ne nF
    have nFL : F ≠ L := (ne_of_none hL nF).symm
    have e02 := e1.trans e2
    refine ⟨_, rfl, _, rfl, _, _, rfl, rfl, j, _, n, rfl, hj.ex e02, by omega, by omega, by omega, fun d H3 d0 d1 e3 j3 => ?_⟩
    refine ⟨_, rfl, by omega, by omega, for_range (lo := 0) (n := d.toNat) (fun i σ H' => ∃ (v4 : Option V) (us : List V) (ks : List Ky) (ls : List Int), σ = [some (.ref j), some (.int (w : Nat)), some (.ref L), some (.ref F), v4] ∧ Exj j H H' ∧ Deck H' j (n + 1 + 2 * i) ∧ H' F = some (.lst us) ∧ AllR (fun v k => KyR K H' v k ∧ v ≠ .ref F ∧ v ≠ .ref L ∧ v ≠ .ref j) us ks ∧ H' L = some (.lst (ls.map V.int)) ∧ ks.length = i ∧ (cols ks ++ ls).Perm (upN w) ∧ ∀ k ∈ ks, k.2 = 1 ∨ k.2 = -1) ⟨_, [], [], _, rfl, (Exj.of e02).trans e3, j3.mono (by omega), e3 _ _ nFj hF, AllR.nil, e3 _ _ nLj (e2 _ _ hL), rfl, List.Perm.refl _, fun k hk => by cases hk⟩ ?_ ?_⟩
    · rintro i σ H4 hi ⟨v4, us, ks, ls, rfl, e4, j4, f4, a4, l4, kl, pm, sg⟩
      have ul := a4.1
      have hlen : ks.length + ls.length = w := by
        have := pm.length_eq
        simpa [cols, upN_len] using this
      refine ⟨_, rfl, .inl ⟨rfl, _, sqI f4⟩, _, rfl, .inl ⟨rfl, _, sqI l4⟩, _, rfl, _, rfl, _, _, rfl, .inl (sqI l4), j, _, _, rfl, j4, by omega, ?_, ?_, fun m H5 m0 m1 e5 j5 => ?_⟩
      · rw [List.length_map]
        omega
      · rw [List.length_map]
        omega
      rw [List.length_map] at m1
      have l5 := e5 _ _ nLj l4
      have f5 := e5 _ _ nFj f4
      have hy : ls[m.toNat]? = some (ls[m.toNat]'(by omega)) := List.getElem?_eq_getElem (by omega)
      refine ⟨_, _, _, m.toNat, _, rfl, rfl, l5, by omega, by omega, ?_, by rw [List.getElem?_map, hy]; rfl, ?_⟩
      · rw [List.length_map]
        exact seqIndex_of m0 m1
      have x5 : ∀ b o, b ≠ L → H5 b = some o → L2.upd H5 L (.lst ((ls.map V.int).eraseIdx m.toNat)) b = some o := fun b o nb h => by rw [upd_ne nb]; exact h
      have j5' := j5.upd (o := .lst ((ls.map V.int).eraseIdx m.toNat)) nLj
      have l5' : L2.upd H5 L (.lst ((ls.map V.int).eraseIdx m.toNat)) L = some (.lst ((ls.map V.int).eraseIdx m.toNat)) := upd_same
      generalize L2.upd H5 L (.lst ((ls.map V.int).eraseIdx m.toNat)) = H6 at x5 j5' l5' ⊢
      refine ⟨_, rfl, (by show 2 ≤ sizeLine; decide), fun p7 H7 n7 e7 h7 => ?_⟩
      have n7j := j5'.ne n7
      refine ⟨_, rfl, j, _, _, rfl, j5'.ex e7, by omega, by decide, by decide, fun g H8 g0 g1 e8 j8 => ?_⟩
      have ea : ∃ s : Int, atI [V.int 1, V.int (-1)] g = some (.int s) ∧ (s = 1 ∨ s = -1) := by
        rcases (show g = 0 ∨ g = 1 by omega) with z | z
        · exact ⟨1, by rw [z]; exact at0, .inl rfl⟩
        · exact ⟨-1, by rw [z]; exact at1, .inr rfl⟩
      obtain ⟨s, ea, hs⟩ := ea
      refine ⟨_, _, _, _, rfl, rfl, sqI (e8 _ _ n7j h7), ea, (by show 2 ≤ sizeLine; decide), fun p9 H9 n9 e9 h9 => ?_⟩
      have f9 : H9 F = some (.lst us) := e9 _ _ (e8 _ _ nFj (e7 _ _ (x5 _ _ nFL f5)))
      have n9j := j8.ne n9
      have n9F : p9 ≠ F := fun z => by rw [z, e8 _ _ nFj (e7 _ _ (x5 _ _ nFL f5))] at n9; cases n9
      have n9L : p9 ≠ L := fun z => by rw [z, e8 _ _ nLj (e7 _ _ l5')] at n9; cases n9
      refine ⟨_, _, _, rfl, rfl, f9, ?_, ?_⟩
      · rw [ul, kl]
        exact Nat.lt_of_lt_of_le (show i < 100 by omega) (by decide)
      have go : ∀ b o, b ≠ j → b ≠ L → b ≠ F → H4 b = some o → L2.upd H9 F (.lst (us ++ [.ref p9])) b = some o := fun b o nb nL' nF' h => by
        rw [upd_ne nF']
        exact e9 _ _ (e8 _ _ nb (e7 _ _ (x5 _ _ nL' (e5 _ _ nb h))))
      refine ⟨_, us ++ [.ref p9], ks ++ [(ls[m.toNat]'(by omega), s)], ls.eraseIdx m.toNat, rfl, ?_, ((j8.ex e9).mono (by omega)).upd nFj, upd_same, ?_, ?_, by simp [kl], ?_, fun x hx => ?_⟩
      · intro b o nb hb
        have hb4 := e4 _ _ nb hb
        exact go b o nb (ne_of_none hb nL) (ne_of_none (e1 _ _ hb) nF) hb4
      · refine AllR.snoc (a4.mono fun v x r => ?_) ⟨⟨p9, rfl, sqT ?_⟩, ?_, ?_, ?_⟩
        · obtain ⟨⟨q, rfl, hq⟩, r2, r3, r4⟩ := r
          refine ⟨⟨q, rfl, ?_⟩, r2, r3, r4⟩
          have nj : q ≠ j := fun z => r4 (by rw [z])
          have nL' : q ≠ L := fun z => r3 (by rw [z])
          have nF' : q ≠ F := fun z => r2 (by rw [z])
          rcases hq with (h | ⟨o, h⟩) | h
          · exact .inl (.inl (go _ _ nj nL' nF' h))
          · exact .inl (.inr ⟨o, go _ _ nj nL' nF' h⟩)
          · exact .inr h
        · rw [upd_ne n9F]
          exact h9
        · intro z; cases z; exact n9F rfl
        · intro z; cases z; exact n9L rfl
        · intro z; cases z; exact n9j rfl
      · rw [upd_ne nFL.symm, ← map_erase]
        exact e9 _ _ (e8 _ _ nLj (e7 _ _ l5'))
      · have ec : cols (ks ++ [(ls[m.toNat]'(by omega), s)]) = cols ks ++ [ls[m.toNat]'(by omega)] := by simp [cols]
        rw [ec, List.append_assoc]
        exact (List.Perm.append_left (cols ks) (erase_perm hy)).trans pm
      · rcases List.mem_append.mp hx with z | z
        · exact sg x z
        · rw [List.mem_singleton.mp z]; exact hs
    · rintro σ H4 ⟨v4, us, ks, ls, rfl, e4, j4, f4, a4, l4, kl, pm, sg⟩
      have nd : (cols ks).Nodup := by
        have : (upN w).Nodup := by
          unfold upN
          rw [List.nodup_iff_pairwise_ne, List.pairwise_map]
          exact (List.nodup_iff_pairwise_ne.mp List.nodup_range).imp fun h e => h (by omega)
        exact (List.nodup_append.mp (pm.nodup_iff.mpr this)).1
      have mm : Many w (cols ks) := fun c hc => by
        obtain ⟨i, hi, rfl⟩ := List.mem_map.mp (pm.mem_iff.mp (List.mem_append_left _ hc))
        have := List.mem_range.mp hi
        omega
      exact ⟨_, rfl, k F ks H4 (none_of e1 nF) nFj e4 (j4.mono (by omega)) ⟨us, f4, a4.mono fun v x r => r.1⟩ (by omega) ⟨nd, sg⟩ mm⟩
end
end K09
set_option Elab.async false
set_option pp.maxSteps 1200
set_option linter.all false
set_option maxRecDepth 100000
set_option maxHeartbeats 4000000
namespace K09
open PySem L2 My
def LsR (K : PySem.W.Frag) (H : Hp) (v : V) (ks : List Ky) : Prop := ∃ p, v = .ref p ∧ LsK K H p ks
def LsX (K : PySem.W.Frag) (j : Addr) (H : Hp) (v : V) (ks : List Ky) : Prop := ∃ p, v = .ref p ∧ p ≠ j ∧ LsK K H p ks
theorem LsR.ex {K : PySem.W.Frag} {H H' : Hp} {v : V} {ks : List Ky} (h : LsR K H v ks) (e : Ex H H') : LsR K H' v ks := let ⟨p, a, b⟩ := h; ⟨p, a, b.ex e⟩
theorem LsX.exj {K : PySem.W.Frag} {H H' : Hp} {j : Addr} {ys : List V} {v : V} {ks : List Ky} (h : LsX K j H v ks) (e : Exj j H H') (hj : H j = some (.lst ys)) : LsX K j H' v ks := let ⟨p, a, n, b⟩ := h; ⟨p, a, n, b.exj e n hj⟩
theorem LsX.r {K : PySem.W.Frag} {H : Hp} {j : Addr} {v : V} {ks : List Ky} (h : LsX K j H v ks) : LsR K H v ks := let ⟨p, a, _, b⟩ := h; ⟨p, a, b⟩
theorem LsR.x {K : PySem.W.Frag} {H H' : Hp} {j : Addr} {v : V} {ks : List Ky} (h : LsR K H v ks) (n : H j = none) (e : Ex H H') : LsX K j H' v ks := by
  obtain ⟨p, rfl, us, h1, h2⟩ := h
  exact ⟨p, rfl, (fun z => by rw [z, n] at h1; cases h1), LsK.ex ⟨us, h1, h2⟩ e⟩
def sp__law_after (K : PySem.W.Frag) : Sp := fun vs H Q _ => ∃ (p a : Addr) (ks : List Ky) (cs : List Int), vs = [.ref p, .ref a] ∧ LsK K H p ks ∧ SqL K H a (cs.map V.int) ∧ ks.length + cs.length ≤ 500 ∧ ∀ q H', Ex H H' → LsK K H' q (afterL ks cs) → Q (.ref q) H'
def sp__law_says : Sp := fun vs H Q _ => ∃ (b c : Bool), vs = [.bl b, .bl c] ∧ Q (.bl (decide (b = c))) H
def sp__law_every (K : PySem.W.Frag) : Sp := fun vs H Q _ => ∃ (w : Nat), vs = [.int (w : Nat)] ∧ 1 ≤ w ∧ w ≤ 3 ∧ ∀ p H' us, Ex H H' → H' p = some (.lst us) → AllR (LsR K H') us (everyL w) → Q (.ref p) H'
theorem cell_at0 {cs : List Int} {i : Nat} (h : i < cs.length) : atI (cs.map V.int) ((0 : Int) + ((i : Nat) : Int)) = some (.int (cs.getD ((0 : Int) + (i : Int)).toNat 0)) := by
  rw [Int.zero_add]
  exact cell_atN h
theorem grow {K : PySem.W.Frag} {K1 K4 : Hp} {G p t : Addr} {gs uk : List V} {xs : List (List Ky)} {ks : List Ky} {c s : Int} (e : Ex K1 K4) (g1 : K1 G = some (.lst gs)) (a1 : AllR (LsX K G K1) gs xs) (hk : KsAt K K1 uk ks) (np : p ≠ G) (h8 : K4 p = some (.lst (uk ++ [.ref t]))) (ht : K4 t = some (.tup [.int c, .int s])) :
    Exj G K1 (upd K4 G (.lst (gs ++ [.ref p]))) ∧ AllR (LsX K G (upd K4 G (.lst (gs ++ [.ref p])))) (gs ++ [.ref p]) (xs ++ [ks ++ [(c, s)]]) := by
  have ej : Exj G K1 (upd K4 G (.lst (gs ++ [.ref p]))) := (Exj.of e).upd
  have nt : t ≠ G := fun z => by rw [z, e _ _ g1] at ht; cases ht
  refine ⟨ej, AllR.snoc (a1.mono fun v x r => r.exj ej g1) ⟨p, rfl, np, uk ++ [.ref t], ?_, (hk.exj ej g1).append (AllR.one ⟨t, rfl, sqT ?_⟩)⟩⟩
  · rw [upd_ne np]; exact h8
  · rw [upd_ne nt]; exact ht
section
variable {w : World} {K : PySem.W.Frag} {mg : Str → Option Value} {base : Heap}
theorem ok__law_click (T : Txt K mg) : FnOk PR w K mg base CX0 1 T.a__law_click T.d__law_click ["_law_keys_here", "_law_column"] (sp_after_click K) := by
  refine T.f__law_click.ok sc__law_click (fun vs H Q E h => ?_) (fun cdv A outer s H vs Q E hr h => ?_)
  · obtain ⟨p, ks, c, rfl, _⟩ := h
    rfl
  · obtain ⟨p, ks, c, rfl, hp, hl, k⟩ := h
    refine ⟨_, (pss_cons (ps_if (PW.pt (pw_and (pt_cmpR (op_neD hr.units) (pv 0) (pe_lstG pa_nil) (nomark _)) (pw_and1 (pt_cmpR op_eq (pe_ix ix_tup (pe_ix ix_list (pv 0) pe_int (fun _ _ => rfl)) pe_int (fun _ _ => rfl)) (pv 1) (nomark _))))) (pss_one (ps_ret (pe_op op_catG (pe_lstG (pa_cons (pe_tupG (pa_cons (pv 1) (pa_cons (pe_un un_neg (pe_ix ix_tup (pe_ix ix_list (pv 0) pe_int (fun _ _ => rfl)) pe_int (fun _ _ => rfl))) pa_nil))) pa_nil)) (pe_slice sl_listG (pv 0) (po_some pe_int) po_none)))) pss_nil) (pss_one (ps_ret (pe_op op_catG (pe_lstG (pa_cons (pe_tupG (pa_cons (pv 1) (pa_cons pe_int pa_nil))) pa_nil)) (pe_lc (own := [("_law_key", 2)]) (g := gName 2) (by rfl) sc__law_click.nd (pi_list (pv 0)) (blkOk_by (own := [("_law_key", 2)]) (N := ["_law_keys_here", "_law_column", "_law_key"]) (sc := (defScope s__law_click)) (by decide +kernel)) (fun _ _ _ _ _ => (pg_name (i := 2) sc__law_click.nd rfl (by first | exact Or.inl rfl | exact Or.inr rfl))) (fun _ _ _ _ _ => (pts_one (pt_cmpR op_ne (pe_ix (ixK (r := rIxT) (K := K) (by rfl) ix_tup) (pv 2) pe_int (fun _ _ => rfl)) (pv 1) (nomark _)))) (fun _ _ _ _ _ => (pv 2))))))), ?_⟩
    obtain ⟨us, hu, hk⟩ := id hp
    have ul := hk.1
    refine ⟨_, rfl, (by show 0 ≤ sizeLine; decide), fun p1 H1 n1 e1 h1 => ?_⟩
    refine neE (goodL goodK) (by decide) (x := ks) (y := []) (hp.ex e1).dp (nilD h1) ⟨_, rfl, ?_⟩
    have other : (∀ k0 r, ks = k0 :: r → k0.1 ≠ c) → click ks c = (c, 1) :: ks.filter (fun x => !decide (x.1 = c)) := fun h => by
      cases ks with
      | nil => rfl
      | cons k0 r => exact if_neg (h k0 r rfl)
    refine ifB (fun z => ?_) (fun z => ?_)
    · have ne : ks ≠ [] := by simpa using z
      obtain ⟨k0, r, rfl⟩ := optHead ne
      obtain ⟨u0, t, rfl⟩ : ∃ u0 t, us = u0 :: t := by
        cases us with
        | nil => cases ul
        | cons u t => exact ⟨u, t, rfl⟩
      obtain ⟨q0, e0, hq0⟩ := hk.2 0 u0 k0 rfl rfl
      subst e0
      have hq1 := Evl.ex_t e1 hq0
      refine ⟨_, rfl, _, _, _, _, rfl, rfl, sqI (e1 _ _ hu), at0, _, _, _, _, rfl, rfl, hq1, at0, _, rfl, rfl, _, rfl, ?_⟩
      rw [decInt]
      refine ifB (fun c1 => ?_) (fun c1 => ?_)
      · have ec : k0.1 = c := of_decide_eq_true c1
        refine ⟨_, rfl, _, rfl, _, _, _, _, rfl, rfl, sqI (e1 _ _ hu), at0, _, _, _, _, rfl, rfl, hq1, at1, _, rfl, (by show 2 ≤ sizeLine; decide), fun p2 H2 n2 e2 h2 => ?_⟩
        refine ⟨(by show 1 ≤ sizeLine; decide), fun p3 H3 n3 e3 h3 => ?_⟩
        refine ⟨_, rfl, _, rfl, _, _, rfl, sqI ((e1.trans (e2.trans e3)) _ _ hu), fun p4 H4 n4 e4 h4 => ?_⟩
        have ct : cutV (V.ref q0 :: t) (some 1) none = t := cut_from _ 1
        rw [ct] at h4
        refine ⟨_, _, _, _, rfl, rfl, e4 _ _ h3, h4, ?_, fun p5 H5 n5 e5 h5 => ?_⟩
        · simp only [List.length_cons] at ul hl
          exact Nat.le_trans (show 1 + t.length ≤ 501 by omega) (by decide)
        have e15 := e2.trans (e3.trans (e4.trans e5))
        have e05 := e1.trans e15
        refine k p5 H5 (none_of (e1.trans (e2.trans (e3.trans e4))) n5) e05 ?_
        have cl : click (k0 :: r) c = (c, -k0.2) :: r := if_pos ec
        rw [cl]
        refine ⟨V.ref p2 :: t, h5, ?_⟩
        have tl : KsAt K H5 t r := ⟨by simpa using ul, fun i v x h1 h2 => (hk.ex e05).2 (i + 1) v x h1 h2⟩
        exact (AllR.one (R := KyR K H5) ⟨p2, rfl, sqT ((e3.trans (e4.trans e5)) _ _ h2)⟩).append tl
      · have nc : k0.1 ≠ c := of_decide_eq_false c1
        rw [other (fun k' r' e => by cases e; exact nc)] at k
        refine ⟨_, rfl, (by show 2 ≤ sizeLine; decide), fun p2 H2 n2 e2 h2 => ?_⟩
        refine ⟨(by show 1 ≤ sizeLine; decide), fun p3 H3 n3 e3 h3 => ?_⟩
        have e13 := e1.trans (e2.trans e3)
        refine ⟨_, rfl, p, rfl, ⟨_, sqI (e13 _ _ hu)⟩, fun D hD => lc_filtO (K := K) (a := p) (R := KyR K H3) (ys := k0 :: r) (p := fun x => !decide (x.1 = c)) (sqI (e13 _ _ hu)) (hk.ex e13) hD (by omega) (fun x => rfl) ?_ ?_ ?_⟩
        · rintro v y H' hy ⟨q, rfl, hq⟩ e' Z kZ
          refine ⟨_, rfl, _, _, _, _, rfl, rfl, Evl.ex_t e' hq, at0, _, rfl, rfl, _, rfl, ?_⟩
          rw [decInt]
          exact kZ H' (Evl.Ex.refl _)
        · intro v H' N kN
          exact ⟨_, rfl, kN⟩
        intro H4 us4 e4 d4 r4
        have l4 := r4.1
        have lf := List.length_filter_le (fun x : Ky => !decide (x.1 = c)) (k0 :: r)
        refine ⟨_, _, _, _, rfl, rfl, e4 _ _ h3, d4, ?_, fun p5 H5 n5 e5 h5 => ?_⟩
        · exact Nat.le_trans (show 1 + us4.length ≤ 501 by omega) (by decide)
        refine k p5 H5 (none_of (e13.trans e4) n5) (e13.trans (e4.trans e5)) ⟨V.ref p2 :: us4, h5, ?_⟩
        exact (AllR.one (R := KyR K H5) ⟨p2, rfl, sqT ((e3.trans (e4.trans e5)) _ _ h2)⟩).append (r4.mono fun v x r => r.ex (e4.trans e5))
    · have e : ks = [] := by simpa using z
      rw [other (fun k' r' h => by rw [e] at h; cases h)] at k
      refine ⟨_, rfl, (by show 2 ≤ sizeLine; decide), fun p2 H2 n2 e2 h2 => ?_⟩
      refine ⟨(by show 1 ≤ sizeLine; decide), fun p3 H3 n3 e3 h3 => ?_⟩
      have e13 := e1.trans (e2.trans e3)
      refine ⟨_, rfl, p, rfl, ⟨_, sqI (e13 _ _ hu)⟩, fun D hD => lc_filtO (K := K) (a := p) (R := KyR K H3) (ys := ks) (p := fun x => !decide (x.1 = c)) (sqI (e13 _ _ hu)) (hk.ex e13) hD (by omega) (fun x => rfl) ?_ ?_ ?_⟩
      · rintro v y H' hy ⟨q, rfl, hq⟩ e' Z kZ
        refine ⟨_, rfl, _, _, _, _, rfl, rfl, Evl.ex_t e' hq, at0, _, rfl, rfl, _, rfl, ?_⟩
        rw [decInt]
        exact kZ H' (Evl.Ex.refl _)
      · intro v H' N kN
        exact ⟨_, rfl, kN⟩
      intro H4 us4 e4 d4 r4
      have l4 := r4.1
      have lf := List.length_filter_le (fun x : Ky => !decide (x.1 = c)) ks
      refine ⟨_, _, _, _, rfl, rfl, e4 _ _ h3, d4, ?_, fun p5 H5 n5 e5 h5 => ?_⟩
      · exact Nat.le_trans (show 1 + us4.length ≤ 501 by omega) (by decide)
      refine k p5 H5 (none_of (e13.trans e4) n5) (e13.trans (e4.trans e5)) ⟨V.ref p2 :: us4, h5, ?_⟩
      exact (AllR.one (R := KyR K H5) ⟨p2, rfl, sqT ((e3.trans (e4.trans e5)) _ _ h2)⟩).append (r4.mono fun v x r => r.ex (e4.trans e5))
theorem ok__law_after (T : Txt K mg) : FnOk PR w K mg base CX0 2 T.a__law_after T.d__law_after ["_law_keys_here", "_law_clicks_here"] (sp__law_after K) := by
  refine T.f__law_after.ok sc__law_after (fun vs H Q E h => ?_) (fun cdv A outer s H vs Q E hr h => ?_)
  · obtain ⟨p, a, ks, cs, rfl, _⟩ := h
    rfl
  · obtain ⟨p, a, ks, cs, rfl, hp, ha, hl, k⟩ := h
    refine ⟨_, (pss_cons (ps_for PassesOwn.never rfl (pi_list (pv 1)) (pg_name (i := 2) sc__law_after.nd rfl (by first | exact Or.inl rfl | exact Or.inr rfl)) (pss_one (ps_set (i := 0) sc__law_after.nd rfl (by first | exact Or.inl rfl | exact Or.inr rfl) (pe_call (ok__law_click T) (hr.mono (by decide)) (by rfl) T.g__law_click T.f__law_click.kp (b__law_click T) .nil pass0 (pa_cons (pv 0) (pa_cons (pv 2) pa_nil)))))) (pss_one (ps_ret (pv 0)))), ?_⟩
    refine ⟨_, rfl, a, rfl, ⟨_, ha⟩, for_it (walk_list (K := K) (a := a) (xs := cs.map V.int)) (fun i σ H' => ∃ (f : Addr) (v3 : Option V), σ = [some (.ref f), some (.ref a), v3] ∧ Ex H H' ∧ LsK K H' f (afterL ks (cs.take i))) ⟨p, _, rfl, Evl.Ex.refl H, hp⟩ (fun i σ H' _ ⟨_, _, _, e, _⟩ => Evl.ex_l e ha) ?_ ?_⟩
    · rintro i v σ HX H2 hi ⟨f, v3, rfl, e2, hf⟩ ⟨rfl, hv⟩
      obtain ⟨c, hc, rfl⟩ := mapI_get hv
      have := after_len (cs.take i) ks
      rw [List.length_take] at this
      refine ⟨_, rfl, _, rfl, f, _, c, rfl, hf, by omega, fun p3 H3 n3 e3 h3 => ?_⟩
      exact ⟨p3, _, rfl, e2.trans e3, by rw [take_after hc]; exact h3⟩
    · rintro σ H2 ⟨f, v3, rfl, e2, hf⟩
      rw [List.length_map, List.take_length] at hf
      exact ⟨_, rfl, k f H2 e2 hf⟩
theorem ok__law_says (T : Txt K mg) : FnOk PR w K mg base CX0 1 T.a__law_says T.d__law_says ["_law_found", "_law_due"] sp__law_says := by
  refine T.f__law_says.ok sc__law_says (fun vs H Q E h => ?_) (fun cdv A outer s H vs Q E hr h => ?_)
  · obtain ⟨b, c, rfl, _⟩ := h
    rfl
  · obtain ⟨b, c, rfl, k⟩ := h
    refine ⟨_, (pss_one (ps_ret (pe_and (pe_callB call_isi (by rfl) T.z_isinstance (by decide +kernel) (pa_cons (pv 0) (pa_cons (pe_bltn (v := .ty "bool") (by rfl) T.z_bool (by decide +kernel) rfl) pa_nil))) (pe_one (pe_cmpR op_eq (pv 0) (pv 1) (nomark _)))))), ?_⟩
    refine ⟨_, rfl, _, _, _, _, true, rfl, .ty _, .base (.bl _), kit_ty (r := true) (by decide +kernel), _, rfl, iteT ?_⟩
    refine ⟨_, rfl, _, rfl, rfl, ?_⟩
    rw [decBl]
    exact k
theorem ok__law_bound (T : Txt K mg) : FnOk PR w K mg base CX0 1 T.a__law_bound T.d__law_bound ["_law_clicks_here"] (sp_is_left_alone K) := by
  refine T.f__law_bound.ok sc__law_bound (fun vs H Q E h => ?_) (fun cdv A outer s H vs Q E hr h => ?_)
  · obtain ⟨a, cs, rfl, _⟩ := h
    rfl
  · obtain ⟨a, cs, rfl, ha, hl, k⟩ := h
    refine ⟨_, (pss_cons (ps_set (i := 1) sc__law_bound.nd rfl (by first | exact Or.inl rfl | exact Or.inr rfl) (pe_lc (own := [("_law_k", 3)]) (g := gName 3) (by rfl) sc__law_bound.nd (pi_range1 (by rfl) T.z_range (pa_cons (pe_callB call_len_seq (by rfl) T.z_len PySem.boot_len (pa_cons (pv 0) pa_nil)) pa_nil)) (blkOk_by (own := [("_law_k", 3)]) (N := ["_law_clicks_here", "_law_others", "_law_again", "_law_k"]) (sc := (defScope s__law_bound)) (by decide +kernel)) (fun _ _ _ _ _ => (pg_name (i := 3) sc__law_bound.nd rfl (by first | exact Or.inl rfl | exact Or.inr rfl))) (fun _ _ _ _ _ => (pts_one (pt_cmpR op_ne (pe_ix (ixK (r := rIxL) (K := K) (by rfl) ix_list) (pv 0) (pv 3) (fun _ _ => rfl)) (pe_ix (ixK (r := rIxL) (K := K) (by rfl) ix_list) (pv 0) pe_int (fun _ _ => rfl)) (nomark _)))) (fun _ _ _ _ _ => (pv 3)))) (pss_cons (ps_setLc (i := 2) (own := [("_law_k", 3)]) (g := gName 3) (by rfl) sc__law_bound.nd rfl rfl (sw_true rfl rfl rfl (by decide +kernel)) (pi_range1 (by rfl) T.z_range (pa_cons (pe_callB call_len_seq (by rfl) T.z_len PySem.boot_len (pa_cons (pv 0) pa_nil)) pa_nil)) (blkOk_by (own := [("_law_k", 3)]) (N := ["_law_clicks_here", "_law_others", "_law_again", "_law_k"]) (sc := (defScope s__law_bound)) (by decide +kernel)) (fun _ _ _ _ _ => (pg_name (i := 3) sc__law_bound.nd rfl (by first | exact Or.inl rfl | exact Or.inr rfl))) (fun _ _ _ _ _ => (pts_one (PW.pt (pw_and (pt_cmpR (opK (r := rNeD) (K := K) (by rfl) (op_neD hr.units)) (pv 1) (pe_lstG pa_nil) (nomark _)) (pw_and (pt_cmpR op_gt (pv 3) (pe_ix (ixK (r := rIxL) (K := K) (by rfl) ix_list) (pv 1) pe_int (fun _ _ => rfl)) (nomark _)) (pw_and1 (pt_cmpR op_eq (pe_ix (ixK (r := rIxL) (K := K) (by rfl) ix_list) (pv 0) (pv 3) (fun _ _ => rfl)) (pe_ix (ixK (r := rIxL) (K := K) (by rfl) ix_list) (pv 0) pe_int (fun _ _ => rfl)) (nomark _)))))))) (fun _ _ _ _ _ => (pv 3))) (pss_one (ps_ret (pe_and (pe_cmpR (op_neD hr.units) (pv 0) (pe_lstG pa_nil) (nomark _)) (pe_one (pe_cmpR (op_eqD hr.units) (pv 2) (pe_lstG pa_nil) (nomark _)))))))), ?_⟩
    refine ⟨_, rfl, _, _, rfl, .inl ha, _, rfl, (by rw [List.length_map]; omega), (by rw [List.length_map]; omega), ?_⟩
    rw [List.length_map]
    refine fun D hD => lc_filtR (p := fun x => !decide (cs.getD x.toNat 0 = cs.getD 0 0)) hD (by omega) (fun x => rfl) ?_ ?_ ?_
    · intro i H' hi e' Z kZ
      have hi : i < cs.length := by omega
      refine ⟨_, rfl, _, rfl, _, _, _, _, rfl, rfl, Evl.ex_l e' ha, cell_at0 hi, _, rfl, _, _, _, _, rfl, rfl, Evl.ex_l e' ha, cell_atN (i := 0) (by omega), rfl, ?_⟩
      refine ⟨_, rfl, ?_⟩
      rw [decInt]
      exact kZ H' (Evl.Ex.refl _)
    · intro v H' N kN
      exact ⟨_, rfl, kN⟩
    intro H1 e1 d1
    have d1 : H1 D = some (.lst ((otherI cs).map V.int)) := d1
    refine ⟨_, rfl, _, _, rfl, .inl (Evl.ex_l e1 ha), _, rfl, (by rw [List.length_map]; omega), (by rw [List.length_map]; omega), ?_⟩
    rw [List.length_map]
    refine fun D2 hD2 => lc_filtR (p := fun x => decide (otherI cs ≠ []) && (decide (x > (otherI cs).headD 0) && decide (cs.getD x.toNat 0 = cs.getD 0 0))) hD2 (by omega) (fun x => rfl) ?_ ?_ ?_
    · intro i H' hi e' Z kZ
      refine ⟨_, rfl, (by show 0 ≤ sizeLine; decide), fun p3 H3 n3 e3 h3 => ?_⟩
      have d3 := (e'.trans e3) _ _ d1
      refine neI_ (sqI d3) (ys := []) (sqI h3) ⟨_, rfl, ?_⟩
      refine ifB (fun c => ?_) (fun c => ?_)
      · have ne : otherI cs ≠ [] := by simpa using c
        rw [decide_eq_true ne, Bool.true_and] at kZ
        obtain ⟨o0, t, eo⟩ := List.exists_cons_of_ne_nil ne
        have a0 : atI ((otherI cs).map V.int) 0 = some (.int ((otherI cs).headD 0)) := by
          rw [eo]
          exact at0
        refine ⟨_, rfl, _, rfl, _, _, _, _, rfl, rfl, sqI d3, a0, _, _, rfl, rfl, _, rfl, ?_⟩
        refine ifB (fun c2 => ?_) (fun c2 => ?_)
        · have c2 : (0 : Int) + (i : Int) > (otherI cs).headD 0 := of_decide_eq_true c2
          rw [decide_eq_true c2, Bool.true_and] at kZ
          have e03 := e1.trans (e'.trans e3)
          refine ⟨_, rfl, _, rfl, _, _, _, _, rfl, rfl, Evl.ex_l e03 ha, cell_at0 hi, _, rfl, _, _, _, _, rfl, rfl, Evl.ex_l e03 ha, cell_atN (i := 0) (by omega), rfl, _, rfl, ?_⟩
          rw [decInt]
          exact kZ H3 e3
        · have c2 : ¬ ((0 : Int) + (i : Int) > (otherI cs).headD 0) := of_decide_eq_false c2
          rw [decide_eq_false c2, Bool.false_and] at kZ
          exact kZ H3 e3
      · have ne : ¬ (otherI cs ≠ []) := by simpa using c
        rw [decide_eq_false ne, Bool.false_and] at kZ
        exact kZ H3 e3
    · intro v H' N kN
      exact ⟨_, rfl, kN⟩
    intro H2 e2 d2
    have d2 : H2 D2 = some (.lst ((againI cs).map V.int)) := d2
    have be := bound_eq cs
    refine ⟨_, rfl, (by show 0 ≤ sizeLine; decide), fun p3 H3 n3 e3 h3 => ?_⟩
    have e02 := e1.trans e2
    refine neI_ (Evl.ex_l (e02.trans e3) ha) (ys := []) (sqI h3) ⟨_, rfl, ?_⟩
    refine ifB (fun c => ?_) (fun c => ?_)
    · have ne : cs ≠ [] := by simpa using c
      rw [decide_eq_true ne, Bool.true_and] at be
      refine ⟨_, rfl, (by show 0 ≤ sizeLine; decide), fun p4 H4 n4 e4 h4 => ?_⟩
      refine eqI_ (sqI ((e3.trans e4) _ _ d2)) (ys := []) (sqI h4) ?_
      rw [be]
      exact k H4 (e02.trans (e3.trans e4))
    · have ne : ¬ (cs ≠ []) := by simpa using c
      rw [decide_eq_false ne, Bool.false_and] at be
      rw [← be] at k
      exact k H3 (e02.trans e3)
theorem ok__law_every (T : Txt K mg) : FnOk PR w K mg base CX0 1 T.a__law_every T.d__law_every ["_law_width"] (sp__law_every K) := by
  refine T.f__law_every.ok sc__law_every (fun vs H Q E h => ?_) (fun cdv A outer s H vs Q E hr h => ?_)
  · obtain ⟨w, rfl, _⟩ := h
    rfl
  · obtain ⟨w, rfl, w1, w3, k⟩ := h
    refine ⟨_, (pss_cons (ps_set (i := 1) sc__law_every.nd rfl (by first | exact Or.inl rfl | exact Or.inr rfl) (pe_lstG (pa_cons (pe_lstG pa_nil) pa_nil))) (pss_cons (ps_set (i := 2) sc__law_every.nd rfl (by first | exact Or.inl rfl | exact Or.inr rfl) (pe_lstG (pa_cons (pe_lstG pa_nil) pa_nil))) (pss_cons (ps_for PassesOwn.never rfl (pi_range1 (by rfl) T.z_range (pa_cons (pv 0) pa_nil)) (pg_name (i := 3) sc__law_every.nd rfl (by first | exact Or.inl rfl | exact Or.inr rfl)) (pss_cons (ps_set (i := 4) sc__law_every.nd rfl (by first | exact Or.inl rfl | exact Or.inr rfl) (pe_lstG pa_nil)) (pss_cons (ps_for PassesOwn.never rfl (pi_list (pv 2)) (pg_name (i := 5) sc__law_every.nd rfl (by first | exact Or.inl rfl | exact Or.inr rfl)) (pss_cons (ps_set (i := 6) sc__law_every.nd rfl (by first | exact Or.inl rfl | exact Or.inr rfl) (pe_lc (own := [("_law_column", 7), ("_law_sign", 8)]) (g := (gTup K 2 (gCons (gName 7) (gCons (gName 8) gNil)))) (by rfl) sc__law_every.nd (pi_list (pv 5)) (blkOk_by (own := [("_law_column", 7), ("_law_sign", 8)]) (N := ["_law_width", "_law_found", "_law_layer", "_law_turn", "_law_longer", "_law_keys_here", "_law_used", "_law_column", "_law_sign", "_law_one"]) (sc := (defScope s__law_every)) (by decide +kernel)) (fun _ _ _ _ _ => (pg_tup rfl (pgs_cons (pg_name (i := 7) sc__law_every.nd rfl (by first | exact Or.inl rfl | exact Or.inr rfl)) (pgs_cons (pg_name (i := 8) sc__law_every.nd rfl (by first | exact Or.inl rfl | exact Or.inr rfl)) pgs_nil)))) (fun _ _ _ _ _ => pts_nil) (fun _ _ _ _ _ => (pv 7)))) (pss_one (ps_for PassesOwn.never rfl (pi_list (pe_lc (own := [("_law_one", 9)]) (g := gName 9) (by rfl) sc__law_every.nd (pi_range1 (by rfl) T.z_range (pa_cons (pv 0) pa_nil)) (blkOk_by (own := [("_law_one", 9)]) (N := ["_law_width", "_law_found", "_law_layer", "_law_turn", "_law_longer", "_law_keys_here", "_law_used", "_law_column", "_law_sign", "_law_one"]) (sc := (defScope s__law_every)) (by decide +kernel)) (fun _ _ _ _ _ => (pg_name (i := 9) sc__law_every.nd rfl (by first | exact Or.inl rfl | exact Or.inr rfl))) (fun _ _ _ _ _ => (pts_one (pt_cmpR (opK (r := fun K => rIn K true) (K := K) (by rfl) op_notIn_seq) (pv 9) (pv 6) (by rfl)))) (fun _ _ _ _ _ => (pv 9)))) (pg_name (i := 7) sc__law_every.nd rfl (by first | exact Or.inl rfl | exact Or.inr rfl)) (pss_cons (ps_expr (pe_bm PySem.F.plainAttrs_list PySem.F.slot_list_append PySem.F.type_list_append mt_append (pv 4) (pa_cons (pe_op op_catG (pv 5) (pe_lstG (pa_cons (pe_tupG (pa_cons (pv 7) (pa_cons (pe_un un_neg pe_int) pa_nil))) pa_nil))) pa_nil))) (pss_one (ps_expr (pe_bm PySem.F.plainAttrs_list PySem.F.slot_list_append PySem.F.type_list_append mt_append (pv 4) (pa_cons (pe_op op_catG (pv 5) (pe_lstG (pa_cons (pe_tupG (pa_cons (pv 7) (pa_cons pe_int pa_nil))) pa_nil))) pa_nil))))))))) (pss_cons (ps_set (i := 1) sc__law_every.nd rfl (by first | exact Or.inl rfl | exact Or.inr rfl) (pe_op op_catG (pv 1) (pv 4))) (pss_one (ps_set (i := 2) sc__law_every.nd rfl (by first | exact Or.inl rfl | exact Or.inr rfl) (pe_callTy call_listG (by rfl) T.z_list (by decide +kernel) (pa_cons (pv 4) pa_nil)))))))) (pss_one (ps_ret (pv 1)))))), ?_⟩
    refine ⟨(by show 0 ≤ sizeLine; decide), fun p1 H1 n1 e1 h1 => ?_⟩
    refine ⟨(by show 1 ≤ sizeLine; decide), fun F0 H2 n2 e2 h2 => ?_⟩
    refine ⟨(by show 0 ≤ sizeLine; decide), fun p3 H3 n3 e3 h3 => ?_⟩
    refine ⟨(by show 1 ≤ sizeLine; decide), fun L0 H4 n4 e4 h4 => ?_⟩
    have e34 := e3.trans e4
    have e14 := e2.trans e34
    refine ⟨_, rfl, _, rfl, by omega, by omega, for_range (lo := 0) (n := ((w : Nat) : Int).toNat) (fun i σ H' => ∃ (F L : Addr) (us ls : List V) (v3 v4 v5 v6 v7 v8 v9 : Option V), σ = [some (.int (w : Nat)), some (.ref F), some (.ref L), v3, v4, v5, v6, v7, v8, v9] ∧ Ex H H' ∧ H' F = some (.lst us) ∧ H' L = some (.lst ls) ∧ AllR (LsR K H') us (everyN w i) ∧ AllR (LsR K H') ls (layerL w i)) ⟨F0, L0, [.ref p1], [.ref p3], _, _, _, _, _, _, _, rfl, e1.trans e14, e34 _ _ h2, h4, ?_, AllR.one ⟨p3, rfl, [], e4 _ _ h3, AllR.nil⟩⟩ ?_ ?_⟩
    · have : everyN w 0 = [[]] := by simp [everyN, List.range_succ, layerL]
      rw [this]
      exact AllR.one ⟨p1, rfl, [], e14 _ _ h1, AllR.nil⟩
    · rintro i σ H5 hi ⟨F, L, us, ls, v3, v4, v5, v6, v7, v8, v9, rfl, e5, hF, hL, aF, aL⟩
      refine ⟨(by show 0 ≤ sizeLine; decide), fun G H6 nG e6 hG => ?_⟩
      have lF := aF.1
      have lL := aL.1
      have b1 := every_le w3 i (by omega)
      have b2 := layer_le (w := w) (n := i) w3 (by omega)
      have nLG : L ≠ G := ne_of_none hL nG
      have nFG : F ≠ G := ne_of_none hF nG
      have aF6 : AllR (LsX K G H6) us (everyN w i) := aF.mono fun v x r => r.x nG e6
      have aL6 : AllR (LsX K G H6) ls (layerL w i) := aL.mono fun v x r => r.x nG e6
      refine ⟨_, rfl, L, rfl, ⟨_, sqI (e6 _ _ hL)⟩, for_it (walk_list (K := K) (a := L) (xs := ls)) (fun i2 σ H' => ∃ (gs : List V) (w3 w5 w6 w7 w8 w9 : Option V), σ = [some (.int (w : Nat)), some (.ref F), some (.ref L), w3, some (.ref G), w5, w6, w7, w8, w9] ∧ Exj G H6 H' ∧ H' G = some (.lst gs) ∧ AllR (LsX K G H') gs (((layerL w i).take i2).flatMap (nextL w)) ∧ gs.length ≤ 6 * i2) ⟨[], _, _, _, _, _, _, rfl, Exj.refl _ _, hG, AllR.nil, by show 0 ≤ _; omega⟩ ?_ ?_ ?_⟩
      · rintro i2 σ H' _ ⟨gs, w3, w5, w6, w7, w8, w9, _, e, _⟩
        exact sqI (e _ _ nLG (e6 _ _ hL))
      · rintro i2 v σ HX H7 hi2 ⟨gs, u3, u5, u6, u7, u8, u9, rfl, e7, g7, a7, l7⟩ ⟨rfl, hv⟩
        obtain ⟨ks, hks, r⟩ := aL6.get hv
        obtain ⟨q, rfl, nq, hq⟩ := r.exj e7 hG
        obtain ⟨uk, hu, hk⟩ := id hq
        have ul := hk.1
        have ksl := layer_size w i ks (List.mem_of_getElem? hks)
        refine ⟨_, rfl, q, rfl, ⟨_, sqI hu⟩, fun U nU => lc_mapG (K := K) (a := q) (ys := (cols ks).map V.int) (sqI hu) nU (by simp [cols, ul]) ?_ ?_ ?_⟩
        · have := ksl
          exact Nat.le_trans (show _ ≤ 3 by omega) (by decide)
        · intro i' x y H' e' hx hy N Z kN
          obtain ⟨k', hki, q', rfl, hq'⟩ := hk.get hx
          have hy' : (cols ks)[i']? = some k'.1 := by unfold cols; rw [List.getElem?_map, hki]; rfl
          rw [List.getElem?_map, hy'] at hy
          cases hy
          refine ⟨_, _, rfl, Evl.ex_t e' hq', rfl, _, _, rfl, _, _, rfl, rfl, rfl, ?_⟩
          show _
          exact ⟨_, rfl, kN H' (Evl.Ex.refl _)⟩
        intro H8 e8 d8
        refine ⟨_, rfl, _, rfl, by omega, by omega, fun C nC => lc_filtR (p := fun c => !decide (c ∈ cols ks)) nC (show w ≤ 1000 by omega) (fun x => rfl) ?_ ?_ ?_⟩
        · intro c H' hc e' Z kZ
          refine ⟨_, rfl, _, rfl, _, _, rfl, .inl (sqI (e' _ _ d8)), rfl, flatI _, _, rfl, ?_⟩
          rw [inV_int]
          exact kZ H' (Evl.Ex.refl _)
        · intro v H' N kN
          exact ⟨_, rfl, kN⟩
        intro H9 e9 d9
        have d9 : H9 C = some (.lst ((free w ks).map V.int)) := d9
        have e79 := e8.trans e9
        have nCG : C ≠ G := (ne_of_none (e8 _ _ g7) nC).symm
        have g9 := e79 _ _ g7
        have y9 : Exj G H6 H9 := e7.trans (Exj.of e79)
        have a9 : AllR (LsX K G H9) gs (((layerL w i).take i2).flatMap (nextL w)) := a7.mono fun v x r => r.exj (Exj.of e79) g7
        have fl := free_len w ks
        have i2l : i2 ≤ 216 := by omega
        refine ⟨C, rfl, ⟨_, sqI d9⟩, for_it (walk_list (K := K) (a := C) (xs := (free w ks).map V.int)) (fun i3 σ H' => ∃ (gs : List V) (w7 w8 w9 : Option V), σ = [some (.int (w : Nat)), some (.ref F), some (.ref L), u3, some (.ref G), some (.ref q), some (.ref U), w7, w8, w9] ∧ Exj G H9 H' ∧ H' G = some (.lst gs) ∧ AllR (LsX K G H') gs (((layerL w i).take i2).flatMap (nextL w) ++ ((free w ks).take i3).flatMap (both ks)) ∧ gs.length ≤ 6 * i2 + 2 * i3) ⟨gs, _, _, _, rfl, Exj.refl _ _, g9, ?_, by omega⟩ ?_ ?_ ?_⟩
        · show AllR _ gs (_ ++ [])
          rw [List.append_nil]
          exact a9
        · rintro i3 σ H' _ ⟨gs, w7, w8, w9, _, e, _⟩
          exact sqI (e _ _ nCG d9)
        · rintro i3 v σ HX K1 hi3 ⟨gs, w7, w8, w9, rfl, f1, g1, a1, l1⟩ ⟨rfl, hv⟩
          obtain ⟨c, hc, rfl⟩ := mapI_get hv
          have hi3 : i3 < (free w ks).length := by simpa using hi3
          have u1 : K1 q = some (.lst uk) := f1 _ _ nq (e79 _ _ hu)
          have k1 : KsAt K K1 uk ks := (hk.ex e79).exj f1 g9
          refine ⟨_, rfl, .inl ⟨rfl, _, sqI g1⟩, _, rfl, _, rfl, _, rfl, (by show 2 ≤ sizeLine; decide), fun t2 K2 n2 x2 h2 => ?_⟩
          refine ⟨(by show 1 ≤ sizeLine; decide), fun t3 K3 n3 x3 h3 => ?_⟩
          have kl : uk.length + [V.ref t2].length ≤ sizeLine := Nat.le_trans (show uk.length + 1 ≤ 10 by omega) (by decide)
          refine ⟨_, _, _, _, rfl, rfl, (x2.trans x3) _ _ u1, h3, kl, fun t4 K4 n4 x4 h4 => ?_⟩
          have x14 := x2.trans (x3.trans x4)
          have g4 := x14 _ _ g1
          have np : t4 ≠ G := (ne_of_none ((x2.trans x3) _ _ g1) n4).symm
          obtain ⟨ej, a5⟩ := grow x14 g1 a1 k1 np h4 ((x3.trans x4) _ _ h2)
          refine ⟨_, _, _, rfl, rfl, g4, Nat.lt_of_le_of_lt (show gs.length ≤ 3000 by omega) (by decide), ?_⟩
          have g5 : upd K4 G (.lst (gs ++ [V.ref t4])) G = some (.lst (gs ++ [.ref t4])) := upd_same
          generalize upd K4 G (.lst (gs ++ [V.ref t4])) = K5 at ej a5 g5 ⊢
          have u5 : K5 q = some (.lst uk) := ej _ _ nq u1
          have k5 : KsAt K K5 uk ks := k1.exj ej g1
          refine ⟨_, rfl, .inl ⟨rfl, _, sqI g5⟩, _, rfl, _, rfl, (by show 2 ≤ sizeLine; decide), fun t6 K6 n6 x6 h6 => ?_⟩
          refine ⟨(by show 1 ≤ sizeLine; decide), fun t7 K7 n7 x7 h7 => ?_⟩
          refine ⟨_, _, _, _, rfl, rfl, (x6.trans x7) _ _ u5, h7, kl, fun t8 K8 n8 x8 h8 => ?_⟩
          have x58 := x6.trans (x7.trans x8)
          have g8 := x58 _ _ g5
          have np' : t8 ≠ G := (ne_of_none ((x6.trans x7) _ _ g5) n8).symm
          obtain ⟨ej', a9'⟩ := grow x58 g5 a5 k5 np' h8 ((x7.trans x8) _ _ h6)
          refine ⟨_, _, _, rfl, rfl, g8, Nat.lt_of_le_of_lt (show (gs ++ [V.ref t4]).length ≤ 3000 by rw [List.length_append]; show _ + 1 ≤ _; omega) (by decide), ?_⟩
          refine ⟨_, _, _, _, rfl, f1.trans (ej.trans ej'), upd_same, ?_, ?_⟩
          · rw [take_snoc hc, List.flatMap_append]
            have : [c].flatMap (both ks) = [ks ++ [(c, -1)]] ++ [ks ++ [(c, 1)]] := rfl
            rw [this, ← List.append_assoc, ← List.append_assoc]
            exact a9'
          · rw [List.length_append, List.length_append]
            show _ + 1 + 1 ≤ _
            omega
        · rintro σ K1 ⟨gs, w7, w8, w9, rfl, f1, g1, a1, l1⟩
          rw [List.length_map, List.take_length, ← nextL_free] at a1
          rw [List.length_map] at l1
          refine ⟨gs, _, _, _, _, _, _, rfl, y9.trans f1, g1, ?_, by omega⟩
          rw [take_snoc hks, List.flatMap_append]
          simpa using a1
      · rintro σ H7 ⟨gs, u3, u5, u6, u7, u8, u9, rfl, e7, g7, a7, l7⟩
        rw [show (layerL w i).take ls.length = layerL w i by rw [lL]; exact List.take_length] at a7
        have a7 : AllR (LsX K G H7) gs (layerL w (i + 1)) := a7
        have f7 := e7 _ _ nFG (e6 _ _ hF)
        have lg : gs.length ≤ 6 * 216 := by omega
        refine ⟨_, rfl, _, rfl, _, _, _, _, rfl, rfl, f7, g7, ?_, fun F' H8 n8 e8 h8 => ?_⟩
        · exact Nat.le_trans (show us.length + gs.length ≤ 5000 by omega) (by decide)
        refine ⟨_, rfl, G, _, rfl, .inl (sqI (e8 _ _ g7)), fun L' H9 n9 e9 h9 => ?_⟩
        have e79 := e8.trans e9
        refine ⟨F', L', us ++ gs, gs, _, _, _, _, _, _, _, rfl, ?_, e9 _ _ h8, h9, ?_, a7.mono fun v x r => r.r.ex e79⟩
        · intro b o hb
          have nb : b ≠ G := fun z => by
            have := e5 _ _ hb
            rw [z, nG] at this
            cases this
          exact e79 _ _ (e7 _ _ nb (e6 _ _ (e5 _ _ hb)))
        · rw [everyN_succ]
          exact AllR.append (aF6.mono fun v x r => (r.exj e7 hG).r.ex e79) (a7.mono fun v x r => r.r.ex e79)
    · rintro σ H5 ⟨F, L, us, ls, v3, v4, v5, v6, v7, v8, v9, rfl, e5, hF, hL, aF, aL⟩
      exact ⟨_, rfl, k F H5 us e5 hF aF⟩
theorem ok__law_other (T : Txt K mg) : FnOk PR w K mg base CX0 3 T.a__law_other T.d__law_other ["_law_deck", "_law_width", "_law_clicks_here"] sp__law_other := by
  refine T.f__law_other.ok sc__law_other (fun vs H Q E h => ?_) (fun cdv A outer s H vs Q E hr h => ?_)
  · obtain ⟨j, a, w, n, cs, rfl, _⟩ := h
    rfl
  · obtain ⟨j, a, w, n, cs, rfl, hj, hn, w1, w2, ha, na, cl, mc, k⟩ := h
    refine ⟨_, (pss_cons (ps_set (i := 3) sc__law_other.nd rfl (by first | exact Or.inl rfl | exact Or.inr rfl) (pe_call (ok__law_draw T) (hr.mono (by decide)) (by rfl) T.g__law_draw T.f__law_draw.kp (b__law_draw T) .nil pass0 (pa_cons (pv 0) (pa_cons (pe_op op_add (pe_callB call_len_seq (by rfl) T.z_len PySem.boot_len (pa_cons (pv 2) pa_nil)) pe_int) pa_nil)))) (pss_cons (ps_set (i := 4) sc__law_other.nd rfl (by first | exact Or.inl rfl | exact Or.inr rfl) (pe_call (ok__law_draw T) (hr.mono (by decide)) (by rfl) T.g__law_draw T.f__law_draw.kp (b__law_draw T) .nil pass0 (pa_cons (pv 0) (pa_cons pe_int pa_nil)))) (pss_cons (ps_set (i := 5) sc__law_other.nd rfl (by first | exact Or.inl rfl | exact Or.inr rfl) (pe_call (ok__law_draw T) (hr.mono (by decide)) (by rfl) T.g__law_draw T.f__law_draw.kp (b__law_draw T) .nil pass0 (pa_cons (pv 0) (pa_cons (pv 1) pa_nil)))) (pss_cons (ps_if (pt_cmpR op_eq (pv 4) pe_int (nomark _)) (pss_one (ps_ret (pe_op op_catG (pe_op op_catG (pe_slice sl_listG (pv 2) po_none (po_some (pv 3))) (pe_lstG (pa_cons (pv 5) pa_nil))) (pe_slice sl_listG (pv 2) (po_some (pv 3)) po_none)))) pss_nil) (pss_cons (ps_if (pt_cmpR op_eq (pv 4) pe_int (nomark _)) (pss_one (ps_ret (pe_op op_catG (pe_op op_catG (pe_slice sl_listG (pv 2) po_none (po_some (pv 3))) (pe_lstG (pa_cons (pv 5) (pa_cons (pv 5) pa_nil)))) (pe_slice sl_listG (pv 2) (po_some (pv 3)) po_none)))) pss_nil) (pss_cons (ps_if (pt_cmpR op_eq (pv 4) pe_int (nomark _)) (pss_one (ps_ret (pe_op op_catG (pe_slice sl_listG (pv 2) po_none (po_some (pv 3))) (pe_slice sl_listG (pv 2) (po_some (pe_op op_add (pv 3) pe_int)) po_none)))) pss_nil) (pss_cons (ps_if (pt_cmpR op_eq (pv 4) pe_int (nomark _)) (pss_one (ps_ret (pe_op op_catG (pe_slice sl_listG (pv 2) po_none (po_some pe_int)) (pv 2)))) pss_nil) (pss_one (ps_ret (pe_call (ok__law_clicks T) (hr.mono (by decide)) (by rfl) T.g__law_clicks T.f__law_clicks.kp (b__law_clicks T) .nil pass0 (pa_cons (pv 0) (pa_cons (pv 1) (pa_cons pe_int pa_nil))))))))))))), ?_⟩
    refine ⟨_, rfl, _, rfl, _, _, rfl, .inl (sqI ha), _, _, rfl, rfl, ?_⟩
    refine ⟨j, _, n, rfl, hj, by omega, by rw [List.length_map]; omega, by rw [List.length_map]; omega, fun d1 H1 a1 b1 x1 j1 => ?_⟩
    rw [List.length_map] at b1
    refine ⟨_, rfl, j, _, _, rfl, j1, by omega, by omega, by omega, fun d2 H2 a2 b2 x2 j2 => ?_⟩
    refine ⟨_, rfl, _, rfl, j, _, _, rfl, j2, by omega, by omega, by omega, fun d3 H3 a3 b3 x3 j3 => ?_⟩
    have x13 := x1.trans (x2.trans x3)
    have h3 := x13 _ _ na ha
    obtain ⟨m, rfl⟩ : ∃ m : Nat, d1 = (m : Int) := ⟨d1.toNat, by omega⟩
    have ml : m ≤ cs.length := by omega
    -- what a new list must keep
    have fin : ∀ {H4 H5 : Hp} {p : Addr} (ds : List Int), Ex H3 H4 → H4 p = none → Ex H4 H5 → H5 p = some (.lst (ds.map V.int)) → ds.length ≤ 30 → (∀ c ∈ ds, c = d3 ∨ c ∈ cs) → Q (.ref p) H5 := fun {H4 H5 p} ds e4 n4 e5 h5 l5 m5 => by
      have n3 := none_of e4 n4
      have npj : p ≠ j := j3.ne n3
      refine k p ds H5 (x13.back npj n3) npj (x13.trans (Exj.of (e4.trans e5))) ((j3.mono (by omega)).ex (e4.trans e5)) h5 l5 fun c hc => ?_
      rcases m5 c hc with z | z
      · rw [z]; exact ⟨a3, b3⟩
      · exact mc c z
    have r3 := Evl.Ex.refl H3
    refine ⟨_, rfl, rfl, _, rfl, ?_⟩
    refine ite2 (fun c => ?_) (fun c => ?_)
    · refine ⟨_, rfl, _, rfl, _, rfl, _, _, rfl, sqI h3, fun p4 H4 n4 e4 h4 => ?_⟩
      rw [cut_to, ← List.map_take] at h4
      refine ⟨_, rfl, (by show 1 ≤ sizeLine; decide), fun p5 H5 n5 e5 h5 => ?_⟩
      refine ⟨_, _, _, _, rfl, rfl, e5 _ _ h4, h5, ?_, fun p6 H6 n6 e6 h6 => ?_⟩
      · rw [List.length_map, List.length_take]
        exact Nat.le_trans (show _ ≤ 100 by show min _ _ + 1 ≤ _; omega) (by decide)
      have e36 := e4.trans (e5.trans e6)
      refine ⟨_, rfl, _, rfl, _, rfl, _, _, rfl, sqI (e36 _ _ h3), fun p7 H7 n7 e7 h7 => ?_⟩
      rw [cut_from, ← List.map_drop] at h7
      refine ⟨_, _, _, _, rfl, rfl, e7 _ _ h6, h7, ?_, fun p8 H8 n8 e8 h8 => ?_⟩
      · rw [List.length_append, List.length_map, List.length_map, List.length_take, List.length_drop]
        exact Nat.le_trans (show _ ≤ 100 by show min _ _ + 1 + _ ≤ _; omega) (by decide)
      refine fin (cs.take m ++ [d3] ++ cs.drop m) (e36.trans e7) n8 e8 ?_ ?_ ?_
      · rw [h8, List.map_append, List.map_append]; rfl
      · rw [List.length_append, List.length_append, List.length_take, List.length_drop]
        show min _ _ + 1 + _ ≤ _
        omega
      · intro c hc
        rcases List.mem_append.mp hc with z | z
        · rcases List.mem_append.mp z with z | z
          · exact .inr (List.mem_of_mem_take z)
          · exact .inl (List.mem_singleton.mp z)
        · exact .inr (List.mem_of_mem_drop z)
    refine ⟨_, rfl, rfl, _, rfl, ?_⟩
    refine ite2 (fun c => ?_) (fun c => ?_)
    · refine ⟨_, rfl, _, rfl, _, rfl, _, _, rfl, sqI h3, fun p4 H4 n4 e4 h4 => ?_⟩
      rw [cut_to, ← List.map_take] at h4
      refine ⟨_, rfl, _, rfl, (by show 2 ≤ sizeLine; decide), fun p5 H5 n5 e5 h5 => ?_⟩
      refine ⟨_, _, _, _, rfl, rfl, e5 _ _ h4, h5, ?_, fun p6 H6 n6 e6 h6 => ?_⟩
      · rw [List.length_map, List.length_take]
        exact Nat.le_trans (show _ ≤ 100 by show min _ _ + 2 ≤ _; omega) (by decide)
      have e36 := e4.trans (e5.trans e6)
      refine ⟨_, rfl, _, rfl, _, rfl, _, _, rfl, sqI (e36 _ _ h3), fun p7 H7 n7 e7 h7 => ?_⟩
      rw [cut_from, ← List.map_drop] at h7
      refine ⟨_, _, _, _, rfl, rfl, e7 _ _ h6, h7, ?_, fun p8 H8 n8 e8 h8 => ?_⟩
      · rw [List.length_append, List.length_map, List.length_map, List.length_take, List.length_drop]
        exact Nat.le_trans (show _ ≤ 100 by show min _ _ + 2 + _ ≤ _; omega) (by decide)
      refine fin (cs.take m ++ [d3, d3] ++ cs.drop m) (e36.trans e7) n8 e8 ?_ ?_ ?_
      · rw [h8, List.map_append, List.map_append]; rfl
      · rw [List.length_append, List.length_append, List.length_take, List.length_drop]
        show min _ _ + 2 + _ ≤ _
        omega
      · intro c hc
        rcases List.mem_append.mp hc with z | z
        · rcases List.mem_append.mp z with z | z
          · exact .inr (List.mem_of_mem_take z)
          · refine .inl ?_
            simpa using z
        · exact .inr (List.mem_of_mem_drop z)
    refine ⟨_, rfl, rfl, _, rfl, ?_⟩
    refine ite2 (fun c => ?_) (fun c => ?_)
    · refine ⟨_, rfl, _, rfl, _, rfl, _, _, rfl, sqI h3, fun p4 H4 n4 e4 h4 => ?_⟩
      rw [cut_to, ← List.map_take] at h4
      refine ⟨_, rfl, _, rfl, _, _, rfl, rfl, _, rfl, _, _, rfl, sqI (e4 _ _ h3), fun p7 H7 n7 e7 h7 => ?_⟩
      have em : ((m : Nat) : Int) + 1 = ((m + 1 : Nat) : Int) := by omega
      rw [em, cut_from, ← List.map_drop] at h7
      refine ⟨_, _, _, _, rfl, rfl, e7 _ _ h4, h7, ?_, fun p8 H8 n8 e8 h8 => ?_⟩
      · rw [List.length_map, List.length_map, List.length_take, List.length_drop]
        exact Nat.le_trans (show _ ≤ 100 by omega) (by decide)
      refine fin (cs.take m ++ cs.drop (m + 1)) (e4.trans e7) n8 e8 ?_ ?_ ?_
      · rw [h8, List.map_append]
      · rw [List.length_append, List.length_take, List.length_drop]
        omega
      · intro c hc
        rcases List.mem_append.mp hc with z | z
        · exact .inr (List.mem_of_mem_take z)
        · exact .inr (List.mem_of_mem_drop z)
    refine ⟨_, rfl, rfl, _, rfl, ?_⟩
    refine ite2 (fun c => ?_) (fun c => ?_)
    · refine ⟨_, rfl, _, rfl, _, _, rfl, sqI h3, fun p4 H4 n4 e4 h4 => ?_⟩
      have h4 : H4 p4 = some (.lst ((cs.take 1).map V.int)) := by rw [h4, List.map_take]; exact congrArg (fun l => some (HO.lst l)) (cut_to _ 1)
      refine ⟨_, rfl, _, _, _, _, rfl, rfl, h4, e4 _ _ h3, ?_, fun p8 H8 n8 e8 h8 => ?_⟩
      · rw [List.length_map, List.length_map, List.length_take]
        exact Nat.le_trans (show _ ≤ 100 by omega) (by decide)
      refine fin (cs.take 1 ++ cs) e4 n8 e8 ?_ ?_ ?_
      · rw [h8, List.map_append]
      · rw [List.length_append, List.length_take]
        omega
      · intro c hc
        rcases List.mem_append.mp hc with z | z
        · exact .inr (List.mem_of_mem_take z)
        · exact .inr z
    refine ⟨_, rfl, _, rfl, j, w, 10, _, rfl, j3, by omega, w1, w2, by omega, by omega, fun p ds H4 n4 npj x4 j4 h4 l4 m4 => ?_⟩
    refine k p ds H4 (x13.back npj n4) npj (x13.trans x4) (j4.mono (by omega)) h4 (by omega) m4
end
end K09
set_option Elab.async false
set_option pp.maxSteps 1200
set_option linter.all false
set_option maxRecDepth 100000
set_option maxHeartbeats 4000000
namespace K09
open PySem L2 My
abbrev eR : Fm × Bool → PyData := eP eF PyData.bool
def rowsL (f : Fm) : List (Fm × Bool) := [(f, true), (([], true), false), (([(0, 1)], false), false), (([(0, 0)], true), false),
  ((f.1 ++ f.1, true), false), (([(-1, 1)], true), false), (([], false), true), (([(3, 1), (0, -1)], !f.2), true), (([(3, -1)], true), true),
  (([(3, 2), (0, 1)], false), false), (([(1, 1), (0, 5)], true), false), (([(1, 1), (-1, 1)], false), false), (([(0, 1), (0, -1)], true), false),
  (([(0, 1), (1, 1), (0, -1)], false), false), (([(0, 1), (1, 1), (2, -1)], false), true)]
theorem rows_ok {f : Fm} (h : hasForm f = true) (hl : f.1.length ≤ 200) : ∀ r ∈ rowsL f, hasForm r.1 = r.2 ∧ r.1.1.length ≤ 500 := by
  have dbl : hasForm (f.1 ++ f.1, true) = false := by
    unfold hasForm
    show (areKeys (f.1 ++ f.1) && (decide (true = decide (f.1 ++ f.1 ≠ [])) || decide ((f.1 ++ f.1).length > 1))) = false
    cases e : f.1 with
    | nil => rfl
    | cons k r =>
      have : areKeys (k :: r ++ k :: r) = false := by
        unfold areKeys
        have : ¬ (cols (k :: r ++ k :: r)).Nodup := fun z => by
          unfold cols at z
          rw [List.map_append, List.nodup_append] at z
          exact z.2.2 k.1 (by simp) k.1 (by simp) rfl
        rw [decide_eq_false this, Bool.false_and]
      rw [this, Bool.false_and]
  have nt : hasForm ([(3, 1), (0, -1)], !f.2) = true := by
    cases f.2 <;> decide
  unfold rowsL
  refine List.forall_mem_cons.mpr ⟨⟨h, by show f.1.length ≤ 500; omega⟩, ?_⟩
  refine List.forall_mem_cons.mpr ⟨by decide, ?_⟩
  refine List.forall_mem_cons.mpr ⟨by decide, ?_⟩
  refine List.forall_mem_cons.mpr ⟨by decide, ?_⟩
  refine List.forall_mem_cons.mpr ⟨⟨dbl, by show (f.1 ++ f.1).length ≤ 500; rw [List.length_append]; omega⟩, ?_⟩
  refine List.forall_mem_cons.mpr ⟨by decide, ?_⟩
  refine List.forall_mem_cons.mpr ⟨by decide, ?_⟩
  refine List.forall_mem_cons.mpr ⟨⟨nt, by show 2 ≤ 500; omega⟩, ?_⟩
  refine List.forall_mem_cons.mpr ⟨by decide, ?_⟩
  refine List.forall_mem_cons.mpr ⟨by decide, ?_⟩
  refine List.forall_mem_cons.mpr ⟨by decide, ?_⟩
  refine List.forall_mem_cons.mpr ⟨by decide, ?_⟩
  refine List.forall_mem_cons.mpr ⟨by decide, ?_⟩
  refine List.forall_mem_cons.mpr ⟨by decide, ?_⟩
  refine List.forall_mem_cons.mpr ⟨by decide, ?_⟩
  intro r hr
  cases hr
def sp__law_is_form_right (K : PySem.W.Frag) : Sp := fun vs H Q _ => ∃ (v : V) (f : Fm), vs = [v] ∧ FmR K H v f ∧ f.1.length ≤ 200 ∧ hasForm f = true ∧ Evl.RetV (.bl true) H Q
theorem dp_row {K : PySem.W.Frag} {H : Hp} {v : V} {r : Fm × Bool} (h : Dp K H v (eR r)) : ∃ p a, v = .ref p ∧ SqT K H p [a, .bl r.2] ∧ FmQ K H a r.1 := by
  cases h with
  | tup ht ha =>
    cases ha with
    | cons h1 a1 =>
      cases a1 with
      | cons h2 a2 =>
        cases a2
        cases h2
        exact ⟨_, _, rfl, ht, dp_fm h1⟩
section
variable {w : World} {K : PySem.W.Frag} {mg : Str → Option Value} {base : Heap}
theorem ok__law_is_form_right (T : Txt K mg) : FnOk PR w K mg base CX0 4 T.a__law_is_form_right T.d__law_is_form_right ["_law_form"] (sp__law_is_form_right K) := by
  refine T.f__law_is_form_right.ok sc__law_is_form_right (fun vs H Q E h => ?_) (fun cdv A outer s H vs Q E hr h => ?_)
  · obtain ⟨v, f, rfl, _⟩ := h
    rfl
  · obtain ⟨v, ⟨ks, b⟩, rfl, hf, hl, ok, k⟩ := h
    refine ⟨_, (pss_cons (ps_asg (pv 0) (pg_tup rfl (pgs_cons (pg_name (i := 1) sc__law_is_form_right.nd rfl (by first | exact Or.inl rfl | exact Or.inr rfl)) (pgs_cons (pg_name (i := 2) sc__law_is_form_right.nd rfl (by first | exact Or.inl rfl | exact Or.inr rfl)) pgs_nil)))) (pss_cons (ps_set (i := 3) sc__law_is_form_right.nd rfl (by first | exact Or.inl rfl | exact Or.inr rfl) (pe_lstG (pa_cons (pe_tupG (pa_cons (pv 0) (pa_cons pe_bl pa_nil))) (pa_cons (pl_tup (pl_cons (pl_tup (pl_cons (pl_lst pl_nil (by decide)) (pl_cons pl_bl pl_nil)) (by decide)) (pl_cons pl_bl pl_nil)) (by decide)) (pa_cons (pl_tup (pl_cons (pl_tup (pl_cons (pl_lst (pl_cons (pl_tup (pl_cons pl_int (pl_cons pl_int pl_nil)) (by decide)) pl_nil) (by decide)) (pl_cons pl_bl pl_nil)) (by decide)) (pl_cons pl_bl pl_nil)) (by decide)) (pa_cons (pl_tup (pl_cons (pl_tup (pl_cons (pl_lst (pl_cons (pl_tup (pl_cons pl_int (pl_cons pl_int pl_nil)) (by decide)) pl_nil) (by decide)) (pl_cons pl_bl pl_nil)) (by decide)) (pl_cons pl_bl pl_nil)) (by decide)) pa_nil)))))) (pss_cons (ps_set (i := 3) sc__law_is_form_right.nd rfl (by first | exact Or.inl rfl | exact Or.inr rfl) (pe_op op_catG (pv 3) (pe_lstG (pa_cons (pe_tupG (pa_cons (pe_tupG (pa_cons (pe_op op_catG (pv 1) (pv 1)) (pa_cons pe_bl pa_nil))) (pa_cons pe_bl pa_nil))) (pa_cons (pl_tup (pl_cons (pl_tup (pl_cons (pl_lst (pl_cons (pl_tup (pl_cons pl_neg (pl_cons pl_int pl_nil)) (by decide)) pl_nil) (by decide)) (pl_cons pl_bl pl_nil)) (by decide)) (pl_cons pl_bl pl_nil)) (by decide)) (pa_cons (pl_tup (pl_cons (pl_tup (pl_cons (pl_lst pl_nil (by decide)) (pl_cons pl_bl pl_nil)) (by decide)) (pl_cons pl_bl pl_nil)) (by decide)) pa_nil)))))) (pss_cons (ps_set (i := 3) sc__law_is_form_right.nd rfl (by first | exact Or.inl rfl | exact Or.inr rfl) (pe_op op_catG (pv 3) (pe_lstG (pa_cons (pe_tupG (pa_cons (pe_tupG (pa_cons (pl_lst (pl_cons (pl_tup (pl_cons pl_int (pl_cons pl_int pl_nil)) (by decide)) (pl_cons (pl_tup (pl_cons pl_int (pl_cons pl_neg pl_nil)) (by decide)) pl_nil)) (by decide)) (pa_cons (pe_not (pv 2)) pa_nil))) (pa_cons pe_bl pa_nil))) (pa_cons (pl_tup (pl_cons (pl_tup (pl_cons (pl_lst (pl_cons (pl_tup (pl_cons pl_int (pl_cons pl_neg pl_nil)) (by decide)) pl_nil) (by decide)) (pl_cons pl_bl pl_nil)) (by decide)) (pl_cons pl_bl pl_nil)) (by decide)) pa_nil))))) (pss_cons (ps_set (i := 3) sc__law_is_form_right.nd rfl (by first | exact Or.inl rfl | exact Or.inr rfl) (pe_op op_catG (pv 3) (pe_lstG (pa_cons (pl_tup (pl_cons (pl_tup (pl_cons (pl_lst (pl_cons (pl_tup (pl_cons pl_int (pl_cons pl_int pl_nil)) (by decide)) (pl_cons (pl_tup (pl_cons pl_int (pl_cons pl_int pl_nil)) (by decide)) pl_nil)) (by decide)) (pl_cons pl_bl pl_nil)) (by decide)) (pl_cons pl_bl pl_nil)) (by decide)) (pa_cons (pl_tup (pl_cons (pl_tup (pl_cons (pl_lst (pl_cons (pl_tup (pl_cons pl_int (pl_cons pl_int pl_nil)) (by decide)) (pl_cons (pl_tup (pl_cons pl_int (pl_cons pl_int pl_nil)) (by decide)) pl_nil)) (by decide)) (pl_cons pl_bl pl_nil)) (by decide)) (pl_cons pl_bl pl_nil)) (by decide)) pa_nil))))) (pss_cons (ps_set (i := 3) sc__law_is_form_right.nd rfl (by first | exact Or.inl rfl | exact Or.inr rfl) (pe_op op_catG (pv 3) (pe_lstG (pa_cons (pl_tup (pl_cons (pl_tup (pl_cons (pl_lst (pl_cons (pl_tup (pl_cons pl_int (pl_cons pl_int pl_nil)) (by decide)) (pl_cons (pl_tup (pl_cons pl_neg (pl_cons pl_int pl_nil)) (by decide)) pl_nil)) (by decide)) (pl_cons pl_bl pl_nil)) (by decide)) (pl_cons pl_bl pl_nil)) (by decide)) (pa_cons (pl_tup (pl_cons (pl_tup (pl_cons (pl_lst (pl_cons (pl_tup (pl_cons pl_int (pl_cons pl_int pl_nil)) (by decide)) (pl_cons (pl_tup (pl_cons pl_int (pl_cons pl_neg pl_nil)) (by decide)) pl_nil)) (by decide)) (pl_cons pl_bl pl_nil)) (by decide)) (pl_cons pl_bl pl_nil)) (by decide)) pa_nil))))) (pss_cons (ps_set (i := 3) sc__law_is_form_right.nd rfl (by first | exact Or.inl rfl | exact Or.inr rfl) (pe_op op_catG (pv 3) (pe_lstG (pa_cons (pl_tup (pl_cons (pl_tup (pl_cons (pl_lst (pl_cons (pl_tup (pl_cons pl_int (pl_cons pl_int pl_nil)) (by decide)) (pl_cons (pl_tup (pl_cons pl_int (pl_cons pl_int pl_nil)) (by decide)) (pl_cons (pl_tup (pl_cons pl_int (pl_cons pl_neg pl_nil)) (by decide)) pl_nil))) (by decide)) (pl_cons pl_bl pl_nil)) (by decide)) (pl_cons pl_bl pl_nil)) (by decide)) (pa_cons (pl_tup (pl_cons (pl_tup (pl_cons (pl_lst (pl_cons (pl_tup (pl_cons pl_int (pl_cons pl_int pl_nil)) (by decide)) (pl_cons (pl_tup (pl_cons pl_int (pl_cons pl_int pl_nil)) (by decide)) (pl_cons (pl_tup (pl_cons pl_int (pl_cons pl_neg pl_nil)) (by decide)) pl_nil))) (by decide)) (pl_cons pl_bl pl_nil)) (by decide)) (pl_cons pl_bl pl_nil)) (by decide)) pa_nil))))) (pss_cons (ps_for PassesOwn.never rfl (pi_list (pv 3)) (pg_tup rfl (pgs_cons (pg_name (i := 4) sc__law_is_form_right.nd rfl (by first | exact Or.inl rfl | exact Or.inr rfl)) (pgs_cons (pg_name (i := 5) sc__law_is_form_right.nd rfl (by first | exact Or.inl rfl | exact Or.inr rfl)) pgs_nil))) (pss_one (ps_if (PW.pt (pw_or (pt_not (pt_val (pe_call (ok__law_says T) (hr.mono (by decide)) (by rfl) T.g__law_says T.f__law_says.kp (b__law_says T) .nil pass0 (pa_cons (pe_call (ok_is_form T) (hr.mono (by decide)) (by rfl) T.g_is_form T.f_is_form.kp (b_is_form T) .nil pass0 (pa_cons (pv 4) pa_nil)) (pa_cons (pv 5) pa_nil))))) (pw_or1 (pt_not (pt_val (pe_call (ok__law_says T) (hr.mono (by decide)) (by rfl) T.g__law_says T.f__law_says.kp (b__law_says T) .nil pass0 (pa_cons (pe_callK0 (ok_is_form T) (hr.mono (by decide)) (by rfl) T.g_is_form T.f_is_form.kp (kb_is_form_0_form T) pass0 (pk_cons (pv 4) pk_nil)) (pa_cons (pv 5) pa_nil)))))))) (pss_one (ps_ret pe_bl)) pss_nil))) (pss_one (ps_ret pe_bl)))))))))), ?_⟩
    obtain ⟨p, q, rfl, hp, us, hu, hk⟩ := id hf
    have ul := hk.1
    have hl : ks.length ≤ 200 := hl
    have ul : us.length = ks.length := ul
    refine ⟨_, rfl, _, _, rfl, sqT hp, rfl, _, _, rfl, _, _, rfl, rfl, ?_⟩
    refine ⟨_, rfl, (by show 2 ≤ sizeLine; decide), fun p1 H1 n1 e1 h1 => ?_⟩
    refine fun v2 H2 e2 d2 => fun v3 H3 e3 d3 => fun v4 H4 e4 d4 => ⟨(by show 4 ≤ sizeLine; decide), fun p5 H5 n5 e5 h5 => ?_⟩
    have e45 := e4.trans e5
    have e35 := e3.trans e45
    have e25 := e2.trans e35
    have e05 := e1.trans e25
    have D5 : DpAll K H5 [.ref p1, v2, v3, v4] ((((ks, b), true) :: [((([], true) : Fm), false), (([(0, 1)], false), false), (([(0, 0)], true), false)]).map eR) :=
      .cons (.tup (sqT (e25 _ _ h1)) (.cons (hf.ex e05).dp (.cons (.bl _) .nil))) (.cons (dpEx e35 d2) (.cons (dpEx e45 d3) (.cons (dpEx e5 d4) .nil)))
    refine ⟨_, rfl, _, rfl, _, rfl, _, _, _, _, rfl, rfl, e05 _ _ hu, e05 _ _ hu, Nat.le_trans (show us.length + us.length ≤ 400 by omega) (by decide), fun p6 H6 n6 e6 h6 => ?_⟩
    refine ⟨(by show 2 ≤ sizeLine; decide), fun p7 H7 n7 e7 h7 => ?_⟩
    refine ⟨(by show 2 ≤ sizeLine; decide), fun p8 H8 n8 e8 h8 => ?_⟩
    refine fun v9 H9 e9 d9 => fun v10 H10 e10 d10 => ⟨(by show 3 ≤ sizeLine; decide), fun p11 H11 n11 e11 h11 => ?_⟩
    have x5 := e6.trans (e7.trans (e8.trans (e9.trans (e10.trans e11))))
    refine ⟨_, _, _, _, rfl, rfl, x5 _ _ h5, h11, (by show 7 ≤ sizeLine; decide), fun p12 H12 n12 e12 h12 => ?_⟩
    have D12 := dpAll_app (dpAllEx (x5.trans e12) D5) (show DpAll K H12 [.ref p8, v9, v10] ([((((ks ++ ks), true) : Fm), false), (([(-1, 1)], true), false), (([], false), true)].map eR) from
      .cons (.tup (sqT ((e9.trans (e10.trans (e11.trans e12))) _ _ h8)) (.cons (.tup (sqT ((e8.trans (e9.trans (e10.trans (e11.trans e12)))) _ _ h7)) (.cons (LsK.dp ⟨_, (e7.trans (e8.trans (e9.trans (e10.trans (e11.trans e12))))) _ _ h6, KsAt.ex (AllR.append hk hk) (e05.trans (x5.trans e12))⟩) (.cons (.bl _) .nil))) (.cons (.bl _) .nil))) (.cons (dpEx (e10.trans (e11.trans e12)) d9) (.cons (dpEx (e11.trans e12) d10) .nil)))
    refine ⟨_, rfl, fun v13 H13 e13 d13 => ⟨_, rfl, _, rfl, (by show 2 ≤ sizeLine; decide), fun p14 H14 n14 e14 h14 => ?_⟩⟩
    refine ⟨(by show 2 ≤ sizeLine; decide), fun p15 H15 n15 e15 h15 => ?_⟩
    refine fun v16 H16 e16 d16 => ⟨(by show 2 ≤ sizeLine; decide), fun p17 H17 n17 e17 h17 => ?_⟩
    have x12 := e13.trans (e14.trans (e15.trans (e16.trans e17)))
    refine ⟨_, _, _, _, rfl, rfl, x12 _ _ h12, h17, (by show 9 ≤ sizeLine; decide), fun p18 H18 n18 e18 h18 => ?_⟩
    have D18 := dpAll_app (dpAllEx (x12.trans e18) D12) (show DpAll K H18 [.ref p15, v16] ([((([(3, 1), (0, -1)], !b) : Fm), true), (([(3, -1)], true), true)].map eR) from
      .cons (.tup (sqT ((e16.trans (e17.trans e18)) _ _ h15)) (.cons (.tup (sqT ((e15.trans (e16.trans (e17.trans e18))) _ _ h14)) (.cons (dpEx (e14.trans (e15.trans (e16.trans (e17.trans e18)))) d13) (.cons (.bl _) .nil))) (.cons (.bl _) .nil))) (.cons (dpEx (e17.trans e18) d16) .nil))
    refine ⟨_, rfl, fun v19 H19 e19 d19 => fun v20 H20 e20 d20 => ⟨(by show 2 ≤ sizeLine; decide), fun p21 H21 n21 e21 h21 => ?_⟩⟩
    have x18 := e19.trans (e20.trans e21)
    refine ⟨_, _, _, _, rfl, rfl, x18 _ _ h18, h21, (by show 11 ≤ sizeLine; decide), fun p22 H22 n22 e22 h22 => ?_⟩
    have D22 := dpAll_app (dpAllEx (x18.trans e22) D18) (show DpAll K H22 [v19, v20] ([((([(3, 2), (0, 1)], false) : Fm), false), (([(1, 1), (0, 5)], true), false)].map eR) from
      .cons (dpEx (e20.trans (e21.trans e22)) d19) (.cons (dpEx (e21.trans e22) d20) .nil))
    refine ⟨_, rfl, fun v23 H23 e23 d23 => fun v24 H24 e24 d24 => ⟨(by show 2 ≤ sizeLine; decide), fun p25 H25 n25 e25 h25 => ?_⟩⟩
    have x22 := e23.trans (e24.trans e25)
    refine ⟨_, _, _, _, rfl, rfl, x22 _ _ h22, h25, (by show 13 ≤ sizeLine; decide), fun p26 H26 n26 e26 h26 => ?_⟩
    have D26 := dpAll_app (dpAllEx (x22.trans e26) D22) (show DpAll K H26 [v23, v24] ([((([(1, 1), (-1, 1)], false) : Fm), false), (([(0, 1), (0, -1)], true), false)].map eR) from
      .cons (dpEx (e24.trans (e25.trans e26)) d23) (.cons (dpEx (e25.trans e26) d24) .nil))
    refine ⟨_, rfl, fun v27 H27 e27 d27 => fun v28 H28 e28 d28 => ⟨(by show 2 ≤ sizeLine; decide), fun p29 H29 n29 e29 h29 => ?_⟩⟩
    have x26 := e27.trans (e28.trans e29)
    refine ⟨_, _, _, _, rfl, rfl, x26 _ _ h26, h29, (by show 15 ≤ sizeLine; decide), fun p30 H30 n30 e30 h30 => ?_⟩
    have D30 := dpAll_app (dpAllEx (x26.trans e30) D26) (show DpAll K H30 [v27, v28] ([((([(0, 1), (1, 1), (0, -1)], false) : Fm), false), (([(0, 1), (1, 1), (2, -1)], false), true)].map eR) from
      .cons (dpEx (e28.trans (e29.trans e30)) d27) (.cons (dpEx (e29.trans e30) d28) .nil))
    have D30 : DpAll K H30 _ ((rowsL (ks, b)).map eR) := D30
    have ro := rows_ok ok hl
    have e030 : Ex H H30 := e05.trans (x5.trans (e12.trans (x12.trans (e18.trans (x18.trans (e22.trans (x22.trans (e26.trans (x26.trans e30)))))))))
    generalize rowsL (ks, b) = rows at D30 ro
    refine ⟨_, rfl, p30, rfl, ⟨_, sqI h30⟩, for_it (walk_list (K := K) (a := p30)) (fun i σ H' => ∃ (x4 x5 : Option V), σ = [some (.ref p), some (.ref q), some (.bl b), some (.ref p30), x4, x5] ∧ Ex H30 H') ⟨_, _, rfl, Evl.Ex.refl _⟩ (fun i σ H' _ ⟨_, _, _, e⟩ => sqI (e _ _ h30)) ?_ ?_⟩
    · rintro i v σ HX HA hi ⟨x4, x5, rfl, eA⟩ ⟨rfl, hv⟩
      obtain ⟨d, hd, dv⟩ := dpAll_at (dpAllEx eA D30) hv
      rw [List.getElem?_map] at hd
      obtain ⟨r, hr, rfl⟩ := Option.map_eq_some_iff.mp hd
      obtain ⟨t, a, rfl, ht, hfa⟩ := dp_row dv
      obtain ⟨r1, r2⟩ := ro r (List.mem_of_getElem? hr)
      refine ⟨_, _, rfl, ht, rfl, _, _, rfl, _, _, rfl, rfl, ?_⟩
      refine ⟨_, rfl, _, r.1, rfl, hfa, r2, fun HB eB => ?_⟩
      refine ⟨_, rfl, _, _, rfl, ?_⟩
      rw [r1, decide_eq_true rfl]
      refine ⟨_, rfl, ifF rfl ?_⟩
      refine ⟨_, rfl, _, r.1, rfl, hfa.ex eB, r2, fun HC eC => ?_⟩
      refine ⟨_, rfl, _, _, rfl, ?_⟩
      rw [r1, decide_eq_true rfl]
      refine ⟨_, rfl, ifF rfl ?_⟩
      exact ⟨_, _, rfl, eA.trans (eB.trans eC)⟩
    · rintro σ HA ⟨x4, x5, rfl, eA⟩
      exact k HA (e030.trans eA)
end
end K09
set_option Elab.async false
set_option pp.maxSteps 1200
set_option linter.all false
set_option maxRecDepth 100000
set_option maxHeartbeats 4000000
namespace K09
open PySem L2 My
/-- a key in the heap, not at D -/
def KyX (K : PySem.W.Frag) (D : Addr) (H : Hp) (v : V) (k : Ky) : Prop := ∃ q, v = .ref q ∧ q ≠ D ∧ SqT K H q [.int k.1, .int k.2]
theorem KyX.r {K : PySem.W.Frag} {D : Addr} {H : Hp} {v : V} {k : Ky} (h : KyX K D H v k) : KyR K H v k := let ⟨q, a, _, b⟩ := h; ⟨q, a, b⟩
theorem KyX.exj {K : PySem.W.Frag} {D : Addr} {H H' : Hp} {v : V} {k : Ky} (h : KyX K D H v k) (e : Exj D H H') : KyX K D H' v k := by
  obtain ⟨q, a, n, h⟩ := h
  refine ⟨q, a, n, ?_⟩
  rcases h with (h | ⟨o, h⟩) | h
  · exact .inl (.inl (e _ _ n h))
  · exact .inl (.inr ⟨o, e _ _ n h⟩)
  · exact .inr h
def sp__law_right0 : Sp := fun vs H Q _ => ∃ (j : Addr) (n : Int), vs = [.ref j] ∧ Deck H j n ∧ n ≤ 700000 ∧ ∀ H', Exj j H H' → Deck H' j (n + 2000) → Q (.bl true) H'
theorem nn {w : Int} {cs : List Int} (h : Many w cs) : ∀ c ∈ cs, 0 ≤ c := fun c hc => (h c hc).1
theorem mapF {F : Int} {cs : List Int} (hF : 0 ≤ F) (h : ∀ c ∈ cs, 0 ≤ c) : ∀ c ∈ cs.map (· + F), 0 ≤ c := fun c hc => by
  obtain ⟨x, hx, rfl⟩ := List.mem_map.mp hc
  have := h x hx
  show 0 ≤ x + F
  omega
theorem form_ne {cs : List Int} (h : (formL cs).2 = true) : (formL cs).1 ≠ [] := fun z => by
  rw [form_nil z] at h
  cases h
theorem keys_sh {d : Int} {s : List Ky} (hd : 0 ≤ d) (h : Vd s) (h0 : ∀ c ∈ cols s, 0 ≤ c) : areKeys (sh d s) = true := areKeys_of (vk_sh h) fun x hx => by
  unfold cols sh at hx
  rw [List.map_map] at hx
  obtain ⟨k, hk, rfl⟩ := List.mem_map.mp hx
  have := h0 k.1 (List.mem_map.mpr ⟨k, hk, rfl⟩)
  show 0 ≤ k.1 + d
  omega
theorem form_len (cs : List Int) : (formL cs).1.length ≤ cs.length := by
  have := after_len cs []
  show (afterL [] cs).length ≤ _
  simpa using this
theorem sh_len (d : Int) (s : List Ky) : (sh d s).length = s.length := by simp [sh]
theorem LsK.neD {K : PySem.W.Frag} {H : Hp} {q j : Addr} {ks : List Ky} {n : Int} (h : LsK K H q ks) (d : Deck H j n) : q ≠ j := by
  rintro rfl
  obtain ⟨us, hu, hk⟩ := h
  obtain ⟨x, y, z, hj, _⟩ := d
  rw [hu] at hj
  cases hj
  obtain ⟨k, _, t, e, _⟩ := AllR.get hk (i := 0) rfl
  cases e
theorem FmR.exj {K : PySem.W.Frag} {H H' : Hp} {j : Addr} {n : Int} {v : V} {f : Fm} (h : FmR K H v f) (d : Deck H j n) (e : Exj j H H') : FmR K H' v f := by
  obtain ⟨p, q, a, b, c⟩ := h
  obtain ⟨ys, hj⟩ := d.at
  exact ⟨p, q, a, e _ _ (fun z => by rw [z, hj] at b; cases b) b, c.exj e (c.neD d) hj⟩
theorem st_eq {P : L2.St → Prop} {σ σ' : L2.St} (e : σ = σ') (h : P σ') : P σ := e ▸ h
theorem optnon {K : PySem.W.Frag} {H : Hp} {v : V} {o : Option (List Ky)} (h : OptK K H v o) : decide (v = V.non) = o.isNone := by
  cases o with
  | none =>
    have h : v = .non := h
    rw [h]
    rfl
  | some ks =>
    obtain ⟨p, rfl, _⟩ := h
    rfl
theorem fa_none (f g : Fm) : (firstA f g).isNone = decide (f = g) := by
  unfold firstA
  by_cases e : f = g
  · rw [if_pos e, decide_eq_true e]
    rfl
  · rw [if_neg e, decide_eq_false e]
    split <;> rfl
theorem fa_len {f g : Fm} {ks : List Ky} (h : firstA f g = some ks) : ks.length ≤ 1 := by
  unfold firstA at h
  split at h
  · cases h
  · split at h
    · cases h; exact Nat.zero_le _
    · cases h; exact Nat.le_refl _
section
variable {w : World} {K : PySem.W.Frag} {mg : Str → Option Value} {base : Heap}
theorem ok__law_far_right (T : Txt K mg) : FnOk PR w K mg base CX0 6 T.a__law_far_right T.d__law_far_right ["_law_deck"] sp__law_right0 := by
  refine T.f__law_far_right.ok sc__law_far_right (fun vs H Q E h => ?_) (fun cdv A outer s H vs Q E hr h => ?_)
  · obtain ⟨j, n, rfl, _⟩ := h
    rfl
  · obtain ⟨j, n, rfl, hj, hn, k⟩ := h
    refine ⟨_, (pss_cons (ps_set (i := 1) sc__law_far_right.nd rfl (by first | exact Or.inl rfl | exact Or.inr rfl) (pe_op op_add pe_int (pe_call (ok__law_draw T) (hr.mono (by decide)) (by rfl) T.g__law_draw T.f__law_draw.kp (b__law_draw T) .nil pass0 (pa_cons (pv 0) (pa_cons pe_int pa_nil))))) (pss_cons (ps_set (i := 2) sc__law_far_right.nd rfl (by first | exact Or.inl rfl | exact Or.inr rfl) (pe_call (ok__law_clicks T) (hr.mono (by decide)) (by rfl) T.g__law_clicks T.f__law_clicks.kp (b__law_clicks T) .nil pass0 (pa_cons (pv 0) (pa_cons pe_int (pa_cons pe_int pa_nil))))) (pss_cons (ps_asg (pe_call (ok_form_of T) (hr.mono (by decide)) (by rfl) T.g_form_of T.f_form_of.kp (b_form_of T) .nil passL (pa_cons (pv 2) pa_nil)) (pg_tup rfl (pgs_cons (pg_name (i := 3) sc__law_far_right.nd rfl (by first | exact Or.inl rfl | exact Or.inr rfl)) (pgs_cons (pg_name (i := 4) sc__law_far_right.nd rfl (by first | exact Or.inl rfl | exact Or.inr rfl)) pgs_nil)))) (pss_cons (ps_set (i := 5) sc__law_far_right.nd rfl (by first | exact Or.inl rfl | exact Or.inr rfl) (pe_call (ok_form_of T) (hr.mono (by decide)) (by rfl) T.g_form_of T.f_form_of.kp (b_form_of T) .nil passL (pa_cons (pe_lc (own := [("_law_column", 11)]) (g := gName 11) (by rfl) sc__law_far_right.nd (pi_list (pv 2)) (blkOk_by (own := [("_law_column", 11)]) (N := ["_law_deck", "_law_far", "_law_clicks_here", "_law_keys_here", "_law_bound_here", "_law_moved", "_law_other_here", "_law_apart", "_law_told", "_law_sorting", "_law_found", "_law_column", "_law_sign"]) (sc := (defScope s__law_far_right)) (by decide +kernel)) (fun _ _ _ _ _ => (pg_name (i := 11) sc__law_far_right.nd rfl (by first | exact Or.inl rfl | exact Or.inr rfl))) (fun _ _ _ _ _ => pts_nil) (fun _ _ _ _ _ => (pe_op op_add (pv 11) (pv 1)))) pa_nil))) (pss_cons (ps_if (pt_cmpR (op_neD hr.units) (pv 5) (pe_tupG (pa_cons (pe_lc (own := [("_law_column", 11), ("_law_sign", 12)]) (g := (gTup K 2 (gCons (gName 11) (gCons (gName 12) gNil)))) (by rfl) sc__law_far_right.nd (pi_list (pv 3)) (blkOk_by (own := [("_law_column", 11), ("_law_sign", 12)]) (N := ["_law_deck", "_law_far", "_law_clicks_here", "_law_keys_here", "_law_bound_here", "_law_moved", "_law_other_here", "_law_apart", "_law_told", "_law_sorting", "_law_found", "_law_column", "_law_sign"]) (sc := (defScope s__law_far_right)) (by decide +kernel)) (fun _ _ _ _ _ => (pg_tup rfl (pgs_cons (pg_name (i := 11) sc__law_far_right.nd rfl (by first | exact Or.inl rfl | exact Or.inr rfl)) (pgs_cons (pg_name (i := 12) sc__law_far_right.nd rfl (by first | exact Or.inl rfl | exact Or.inr rfl)) pgs_nil)))) (fun _ _ _ _ _ => pts_nil) (fun _ _ _ _ _ => (pe_tupG (pa_cons (pe_op op_add (pv 11) (pv 1)) (pa_cons (pv 12) pa_nil))))) (pa_cons (pv 4) pa_nil))) (nomark _)) (pss_one (ps_ret pe_bl)) pss_nil) (pss_cons (ps_set (i := 6) sc__law_far_right.nd rfl (by first | exact Or.inl rfl | exact Or.inr rfl) (pe_call (ok__law_other T) (hr.mono (by decide)) (by rfl) T.g__law_other T.f__law_other.kp (b__law_other T) .nil pass0 (pa_cons (pv 0) (pa_cons pe_int (pa_cons (pv 2) pa_nil))))) (pss_cons (ps_set (i := 7) sc__law_far_right.nd rfl (by first | exact Or.inl rfl | exact Or.inr rfl) (pe_call (ok_first_apart T) (hr.mono (by decide)) (by rfl) T.g_first_apart T.f_first_apart.kp (b_first_apart T) .nil passL (pa_cons (pv 2) (pa_cons (pv 6) pa_nil)))) (pss_cons (ps_set (i := 8) sc__law_far_right.nd rfl (by first | exact Or.inl rfl | exact Or.inr rfl) (pe_call (ok_first_apart T) (hr.mono (by decide)) (by rfl) T.g_first_apart T.f_first_apart.kp (b_first_apart T) .nil passL (pa_cons (pe_lc (own := [("_law_column", 11)]) (g := gName 11) (by rfl) sc__law_far_right.nd (pi_list (pv 2)) (blkOk_by (own := [("_law_column", 11)]) (N := ["_law_deck", "_law_far", "_law_clicks_here", "_law_keys_here", "_law_bound_here", "_law_moved", "_law_other_here", "_law_apart", "_law_told", "_law_sorting", "_law_found", "_law_column", "_law_sign"]) (sc := (defScope s__law_far_right)) (by decide +kernel)) (fun _ _ _ _ _ => (pg_name (i := 11) sc__law_far_right.nd rfl (by first | exact Or.inl rfl | exact Or.inr rfl))) (fun _ _ _ _ _ => pts_nil) (fun _ _ _ _ _ => (pe_op op_add (pv 11) (pv 1)))) (pa_cons (pe_lc (own := [("_law_column", 11)]) (g := gName 11) (by rfl) sc__law_far_right.nd (pi_list (pv 6)) (blkOk_by (own := [("_law_column", 11)]) (N := ["_law_deck", "_law_far", "_law_clicks_here", "_law_keys_here", "_law_bound_here", "_law_moved", "_law_other_here", "_law_apart", "_law_told", "_law_sorting", "_law_found", "_law_column", "_law_sign"]) (sc := (defScope s__law_far_right)) (by decide +kernel)) (fun _ _ _ _ _ => (pg_name (i := 11) sc__law_far_right.nd rfl (by first | exact Or.inl rfl | exact Or.inr rfl))) (fun _ _ _ _ _ => pts_nil) (fun _ _ _ _ _ => (pe_op op_add (pv 11) (pv 1)))) pa_nil)))) (pss_cons (ps_if (pt_cmpR op_ne (pe_cmpR op_isN (pv 7) pe_non (nomark _)) (pe_cmpR op_isN (pv 8) pe_non (nomark _)) (nomark _)) (pss_one (ps_ret pe_bl)) pss_nil) (pss_cons (ps_if (pt_cmpR op_ne (pe_call (ok_alike T) (hr.mono (by decide)) (by rfl) T.g_alike T.f_alike.kp (b_alike T) .nil passL (pa_cons (pe_lc (own := [("_law_column", 11)]) (g := gName 11) (by rfl) sc__law_far_right.nd (pi_list (pv 2)) (blkOk_by (own := [("_law_column", 11)]) (N := ["_law_deck", "_law_far", "_law_clicks_here", "_law_keys_here", "_law_bound_here", "_law_moved", "_law_other_here", "_law_apart", "_law_told", "_law_sorting", "_law_found", "_law_column", "_law_sign"]) (sc := (defScope s__law_far_right)) (by decide +kernel)) (fun _ _ _ _ _ => (pg_name (i := 11) sc__law_far_right.nd rfl (by first | exact Or.inl rfl | exact Or.inr rfl))) (fun _ _ _ _ _ => pts_nil) (fun _ _ _ _ _ => (pe_op op_add (pv 11) (pv 1)))) (pa_cons (pe_lc (own := [("_law_column", 11)]) (g := gName 11) (by rfl) sc__law_far_right.nd (pi_list (pv 6)) (blkOk_by (own := [("_law_column", 11)]) (N := ["_law_deck", "_law_far", "_law_clicks_here", "_law_keys_here", "_law_bound_here", "_law_moved", "_law_other_here", "_law_apart", "_law_told", "_law_sorting", "_law_found", "_law_column", "_law_sign"]) (sc := (defScope s__law_far_right)) (by decide +kernel)) (fun _ _ _ _ _ => (pg_name (i := 11) sc__law_far_right.nd rfl (by first | exact Or.inl rfl | exact Or.inr rfl))) (fun _ _ _ _ _ => pts_nil) (fun _ _ _ _ _ => (pe_op op_add (pv 11) (pv 1)))) pa_nil))) (pe_cmpR op_isN (pv 7) pe_non (nomark _)) (nomark _)) (pss_one (ps_ret pe_bl)) pss_nil) (pss_cons (ps_if (PW.pt (pw_and (pt_cmpR op_notN (pv 7) pe_non (nomark _)) (pw_and1 (pt_cmpR (op_neD hr.units) (pv 8) (pe_lc (own := [("_law_column", 11), ("_law_sign", 12)]) (g := (gTup K 2 (gCons (gName 11) (gCons (gName 12) gNil)))) (by rfl) sc__law_far_right.nd (pi_list (pv 7)) (blkOk_by (own := [("_law_column", 11), ("_law_sign", 12)]) (N := ["_law_deck", "_law_far", "_law_clicks_here", "_law_keys_here", "_law_bound_here", "_law_moved", "_law_other_here", "_law_apart", "_law_told", "_law_sorting", "_law_found", "_law_column", "_law_sign"]) (sc := (defScope s__law_far_right)) (by decide +kernel)) (fun _ _ _ _ _ => (pg_tup rfl (pgs_cons (pg_name (i := 11) sc__law_far_right.nd rfl (by first | exact Or.inl rfl | exact Or.inr rfl)) (pgs_cons (pg_name (i := 12) sc__law_far_right.nd rfl (by first | exact Or.inl rfl | exact Or.inr rfl)) pgs_nil)))) (fun _ _ _ _ _ => pts_nil) (fun _ _ _ _ _ => (pe_tupG (pa_cons (pe_op op_add (pv 11) (pv 1)) (pa_cons (pv 12) pa_nil))))) (nomark _))))) (pss_one (ps_ret pe_bl)) pss_nil) (pss_cons (ps_set (i := 9) sc__law_far_right.nd rfl (by first | exact Or.inl rfl | exact Or.inr rfl) (pe_call (ok__law_keys T) (hr.mono (by decide)) (by rfl) T.g__law_keys T.f__law_keys.kp (b__law_keys T) .nil pass0 (pa_cons (pv 0) (pa_cons pe_int pa_nil)))) (pss_cons (ps_set (i := 10) sc__law_far_right.nd rfl (by first | exact Or.inl rfl | exact Or.inr rfl) (pe_call (ok_formed T) (hr.mono (by decide)) (by rfl) T.g_formed T.f_formed.kp (b_formed T) .nil passL (pa_cons (pv 5) (pa_cons (pe_lc (own := [("_law_column", 11), ("_law_sign", 12)]) (g := (gTup K 2 (gCons (gName 11) (gCons (gName 12) gNil)))) (by rfl) sc__law_far_right.nd (pi_list (pv 9)) (blkOk_by (own := [("_law_column", 11), ("_law_sign", 12)]) (N := ["_law_deck", "_law_far", "_law_clicks_here", "_law_keys_here", "_law_bound_here", "_law_moved", "_law_other_here", "_law_apart", "_law_told", "_law_sorting", "_law_found", "_law_column", "_law_sign"]) (sc := (defScope s__law_far_right)) (by decide +kernel)) (fun _ _ _ _ _ => (pg_tup rfl (pgs_cons (pg_name (i := 11) sc__law_far_right.nd rfl (by first | exact Or.inl rfl | exact Or.inr rfl)) (pgs_cons (pg_name (i := 12) sc__law_far_right.nd rfl (by first | exact Or.inl rfl | exact Or.inr rfl)) pgs_nil)))) (fun _ _ _ _ _ => pts_nil) (fun _ _ _ _ _ => (pe_tupG (pa_cons (pe_op op_add (pv 11) (pv 1)) (pa_cons (pv 12) pa_nil))))) pa_nil)))) (pss_one (ps_ret (pe_cmpR (op_eqD hr.units) (pv 10) (pe_lc (own := [("_law_column", 11), ("_law_sign", 12)]) (g := (gTup K 2 (gCons (gName 11) (gCons (gName 12) gNil)))) (by rfl) sc__law_far_right.nd (pi_list (pe_call (ok__law_after T) (hr.mono (by decide)) (by rfl) T.g__law_after T.f__law_after.kp (b__law_after T) .nil pass0 (pa_cons (pv 9) (pa_cons (pv 2) pa_nil)))) (blkOk_by (own := [("_law_column", 11), ("_law_sign", 12)]) (N := ["_law_deck", "_law_far", "_law_clicks_here", "_law_keys_here", "_law_bound_here", "_law_moved", "_law_other_here", "_law_apart", "_law_told", "_law_sorting", "_law_found", "_law_column", "_law_sign"]) (sc := (defScope s__law_far_right)) (by decide +kernel)) (fun _ _ _ _ _ => (pg_tup rfl (pgs_cons (pg_name (i := 11) sc__law_far_right.nd rfl (by first | exact Or.inl rfl | exact Or.inr rfl)) (pgs_cons (pg_name (i := 12) sc__law_far_right.nd rfl (by first | exact Or.inl rfl | exact Or.inr rfl)) pgs_nil)))) (fun _ _ _ _ _ => pts_nil) (fun _ _ _ _ _ => (pe_tupG (pa_cons (pe_op op_add (pv 11) (pv 1)) (pa_cons (pv 12) pa_nil))))) (nomark _))))))))))))))))), ?_⟩
    refine ⟨_, rfl, j, _, n, rfl, hj, by omega, by omega, by omega, fun d H1 d0 d1 x1 j1 => ?_⟩
    refine ⟨_, _, rfl, rfl, ?_⟩
    obtain ⟨F, hF⟩ : ∃ F, F = 1 + d := ⟨_, rfl⟩
    have F0 : 0 ≤ F := by omega
    show gName 1 (V.int (1 + d)) _ _ _
    rw [← hF]
    refine ⟨_, rfl, j, 3, 10, _, rfl, j1, by omega, by omega, by omega, by omega, by omega, fun A cs H2 nA nAj x2 j2 hA cl mc => ?_⟩
    have cl : cs.length ≤ 10 := by omega
    have c0 := nn mc
    refine ⟨_, rfl, A, cs, rfl, sqI hA, by omega, c0, fun v3 H3 e3 f3 => ?_⟩
    obtain ⟨p3, q3, rfl, hp3, us3, hu3, hk3⟩ := id f3
    have fl := form_len cs
    refine ⟨_, _, rfl, sqT hp3, rfl, _, _, rfl, _, _, rfl, rfl, ?_⟩
    refine ⟨_, rfl, A, rfl, ⟨_, sqI (e3 _ _ hA)⟩, fun D4 nD4 => lc_mapL (K := K) (a := A) (ys := (cs.map (· + F)).map V.int) (sqI (e3 _ _ hA)) nD4 (by simp) (by rw [List.length_map]; exact Nat.le_trans (show _ ≤ 100 by omega) (by decide)) (fun x => rfl) ?_ ?_⟩
    · intro i x y H' e' hx hy R kR
      obtain ⟨c, hc, rfl⟩ := mapI_get hx
      rw [List.getElem?_map, List.getElem?_map, hc] at hy
      cases hy
      exact ⟨_, rfl, _, rfl, _, _, rfl, rfl, kR H' (Evl.Ex.refl _)⟩
    intro H4 e4 d4
    have m0 := mapF F0 c0
    refine ⟨D4, cs.map (· + F), rfl, sqI d4, by rw [List.length_map]; omega, m0, fun v5 H5 e5 f5 => ?_⟩
    refine st_eq (σ' := [some (.ref j), some (.int F), some (.ref A), some (.ref q3), some (.bl (formL cs).2), none, none, none, none, none, none, none, none]) (P := fun σ => gName 5 v5 σ H5 _) rfl ?_
    have e35 := e4.trans e5
    have hk5 := hk3.ex e35
    have l100 : (formL cs).1.length ≤ 100 := by omega
    refine ⟨_, rfl, _, rfl, q3, rfl, ⟨_, sqI (e35 _ _ hu3)⟩, fun D6 nD6 => lc_objL (K := K) (a := q3) (R := KyX K D6) (ys := sh F (formL cs).1) (sqI (e35 _ _ hu3)) nD6 (by unfold sh; rw [List.length_map]; exact (hk5).1.symm) (by rw [(hk5).1]; exact Nat.le_trans (show _ ≤ 100 by first | assumption | omega) (by decide)) (fun H' H'' v y r e => r.exj e) ?_ ?_⟩
    · intro i x y H' e' dn hx hy N Z kN
      obtain ⟨k', hki, q', rfl, hq'⟩ := AllR.get hk5 hx
      unfold sh at hy
      rw [List.getElem?_map, hki] at hy
      cases hy
      refine ⟨_, _, rfl, Evl.ex_t e' hq', rfl, _, _, rfl, _, _, rfl, rfl, rfl, ?_⟩
      show _
      exact ⟨_, rfl, _, rfl, _, _, rfl, rfl, _, rfl, (by show 2 ≤ sizeLine; decide), fun t H2 n2 e2 h2 => kN _ H2 e2 ⟨t, rfl, fun z => dn (z ▸ n2), sqT h2⟩⟩
    intro H6 us6 e6 d6 aus6
    have Lus6 : LsK K H6 D6 (sh F (formL cs).1) := ⟨us6, d6, aus6.mono fun v x r => r.r⟩
    refine ⟨_, rfl, (by show 2 ≤ sizeLine; decide), fun p7 H7 n7 e7 h7 => ?_⟩
    have fs := form_sh F cs
    have dq : Dp K H7 (.ref p7) (eF (sh F (formL cs).1, (formL cs).2)) := .tup (sqT h7) (.cons (Lus6.ex e7).dp (.cons (.bl _) .nil))
    refine neE goodF (by decide) (f5.ex (e6.trans e7)).dp dq ⟨_, rfl, ifF (by rw [fs]; exact same) ?_⟩
    have e57 := e6.trans e7
    have e37 := e35.trans e57
    have e27 := e3.trans e37
    refine ⟨_, rfl, _, rfl, j, A, 3, _, cs, rfl, j2.ex e27, by omega, by omega, by omega, e27 _ _ hA, nAj, by omega, mc, fun B ds H8 nB nBj x8 j8 hB dl md => ?_⟩
    have x28 := (Exj.of e27).trans x8
    have hA8 := x28 _ _ nAj hA
    have ds0 := nn md
    refine ⟨_, rfl, _, rfl, A, B, cs, ds, rfl, sqI hA8, sqI hB, by omega, by omega, c0, ds0, fun v9 H9 e9 o9 => ?_⟩
    refine ⟨_, rfl, A, rfl, ⟨_, sqI (e9 _ _ hA8)⟩, fun D10 nD10 => lc_mapL (K := K) (a := A) (ys := (cs.map (· + F)).map V.int) (sqI (e9 _ _ hA8)) nD10 (by simp) (by rw [List.length_map]; exact Nat.le_trans (show _ ≤ 100 by omega) (by decide)) (fun x => rfl) ?_ ?_⟩
    · intro i x y H' e' hx hy R kR
      obtain ⟨c, hc, rfl⟩ := mapI_get hx
      rw [List.getElem?_map, List.getElem?_map, hc] at hy
      cases hy
      exact ⟨_, rfl, _, rfl, _, _, rfl, rfl, kR H' (Evl.Ex.refl _)⟩
    intro H10 e10 d10
    refine ⟨_, rfl, B, rfl, ⟨_, sqI ((e9.trans e10) _ _ hB)⟩, fun D11 nD11 => lc_mapL (K := K) (a := B) (ys := (ds.map (· + F)).map V.int) (sqI ((e9.trans e10) _ _ hB)) nD11 (by simp) (by rw [List.length_map]; exact Nat.le_trans (show _ ≤ 100 by omega) (by decide)) (fun x => rfl) ?_ ?_⟩
    · intro i x y H' e' hx hy R kR
      obtain ⟨c, hc, rfl⟩ := mapI_get hx
      rw [List.getElem?_map, List.getElem?_map, hc] at hy
      cases hy
      exact ⟨_, rfl, _, rfl, _, _, rfl, rfl, kR H' (Evl.Ex.refl _)⟩
    intro H11 e11 d11
    have md0 := mapF F0 ds0
    refine ⟨D10, D11, cs.map (· + F), ds.map (· + F), rfl, sqI (e11 _ _ d10), sqI d11, by rw [List.length_map]; omega, by rw [List.length_map]; omega, m0, md0, fun v12 H12 e12 o12 => ?_⟩
    refine st_eq (σ' := [some (.ref j), some (.int F), some (.ref A), some (.ref q3), some (.bl (formL cs).2), some v5, some (.ref B), some v9, none, none, none, none, none]) (P := fun σ => gName 8 v12 σ H12 _) rfl ?_
    rw [first_sh] at o12
    have e9b := e10.trans (e11.trans e12)
    have i9 := optnon o9
    have i12 := optnon o12
    rw [Option.isNone_map] at i12
    refine ⟨_, rfl, rfl, _, rfl, rfl, rfl, _, rfl, ifF ?_ ?_⟩
    · rw [i9, i12]
      exact same
    refine ⟨_, rfl, A, rfl, ⟨_, sqI ((e9.trans e9b) _ _ hA8)⟩, fun D13 nD13 => lc_mapL (K := K) (a := A) (ys := (cs.map (· + F)).map V.int) (sqI ((e9.trans e9b) _ _ hA8)) nD13 (by simp) (by rw [List.length_map]; exact Nat.le_trans (show _ ≤ 100 by omega) (by decide)) (fun x => rfl) ?_ ?_⟩
    · intro i x y H' e' hx hy R kR
      obtain ⟨c, hc, rfl⟩ := mapI_get hx
      rw [List.getElem?_map, List.getElem?_map, hc] at hy
      cases hy
      exact ⟨_, rfl, _, rfl, _, _, rfl, rfl, kR H' (Evl.Ex.refl _)⟩
    intro H13 e13 d13
    refine ⟨_, rfl, B, rfl, ⟨_, sqI ((e9.trans (e9b.trans e13)) _ _ hB)⟩, fun D14 nD14 => lc_mapL (K := K) (a := B) (ys := (ds.map (· + F)).map V.int) (sqI ((e9.trans (e9b.trans e13)) _ _ hB)) nD14 (by simp) (by rw [List.length_map]; exact Nat.le_trans (show _ ≤ 100 by omega) (by decide)) (fun x => rfl) ?_ ?_⟩
    · intro i x y H' e' hx hy R kR
      obtain ⟨c, hc, rfl⟩ := mapI_get hx
      rw [List.getElem?_map, List.getElem?_map, hc] at hy
      cases hy
      exact ⟨_, rfl, _, rfl, _, _, rfl, rfl, kR H' (Evl.Ex.refl _)⟩
    intro H14 e14 d14
    refine ⟨D13, D14, cs.map (· + F), ds.map (· + F), rfl, sqI (e14 _ _ d13), sqI d14, by rw [List.length_map]; omega, by rw [List.length_map]; omega, m0, md0, fun H15 e15 => ?_⟩
    have ad : decide (formL (cs.map (· + F)) = formL (ds.map (· + F))) = (firstA (formL cs) (formL ds)).isNone := by
      rw [← fa_none, first_sh, Option.isNone_map]
    have e1215 := e13.trans (e14.trans e15)
    refine ⟨_, rfl, rfl, rfl, _, rfl, ifF ?_ ?_⟩
    · rw [i9, ad]
      exact same
    refine ⟨_, rfl, rfl, _, rfl, ?_⟩
    have o9 : OptK K H15 v9 (firstA (formL cs) (formL ds)) := by
      cases z : firstA (formL cs) (formL ds) with
      | none => rw [z] at o9; exact o9
      | some ks =>
        rw [z] at o9
        obtain ⟨p, a, b⟩ := o9
        exact ⟨p, a, b.ex (e9b.trans e1215)⟩
    have o12 : OptK K H15 v12 ((firstA (formL cs) (formL ds)).map (sh F)) := by
      cases z : firstA (formL cs) (formL ds) with
      | none => rw [z] at o12; exact o12
      | some ks =>
        rw [z] at o12
        obtain ⟨p, a, b⟩ := o12
        exact ⟨p, a, b.ex e1215⟩
    cases fa : firstA (formL cs) (formL ds)
    case' none =>
      rw [fa] at o9 o12
      obtain rfl : v9 = .non := o9
      refine ifF rfl ?_
      obtain ⟨HX, hX⟩ : ∃ HX, HX = H15 := ⟨_, rfl⟩
      have eX : Ex H15 HX := by rw [hX]; exact Evl.Ex.refl _
      rw [← hX]
    case' some ka =>
      rw [fa] at o9 o12
      obtain ⟨p9, rfl, hp9⟩ := o9
      obtain ⟨u9, hu9, hk9⟩ := id hp9
      obtain ⟨p12, rfl, hp12⟩ := o12
      have kal := fa_len fa
      have kal : ka.length ≤ 100 := by omega
      refine ifT rfl ?_
      refine ⟨_, rfl, _, rfl, p9, rfl, ⟨_, sqI hu9⟩, fun D16 nD16 => lc_objL (K := K) (a := p9) (R := KyX K D16) (ys := sh F ka) (sqI hu9) nD16 (by unfold sh; rw [List.length_map]; exact (hk9).1.symm) (by rw [(hk9).1]; exact Nat.le_trans (show _ ≤ 100 by first | assumption | omega) (by decide)) (fun H' H'' v y r e => r.exj e) ?_ ?_⟩
      · intro i x y H' e' dn hx hy N Z kN
        obtain ⟨k', hki, q', rfl, hq'⟩ := AllR.get hk9 hx
        unfold sh at hy
        rw [List.getElem?_map, hki] at hy
        cases hy
        refine ⟨_, _, rfl, Evl.ex_t e' hq', rfl, _, _, rfl, _, _, rfl, rfl, rfl, ?_⟩
        show _
        exact ⟨_, rfl, _, rfl, _, _, rfl, rfl, _, rfl, (by show 2 ≤ sizeLine; decide), fun t H2 n2 e2 h2 => kN _ H2 e2 ⟨t, rfl, fun z => dn (z ▸ n2), sqT h2⟩⟩
      intro HX us16 eX d16 aus16
      have Lus16 : LsK K HX D16 (sh F ka) := ⟨us16, d16, aus16.mono fun v x r => r.r⟩
      refine neE (goodL goodK) (by decide) (hp12.ex eX).dp Lus16.dp ⟨_, rfl, ifF same ?_⟩
    all_goals
      have jX := j8.ex (e9.trans (e9b.trans (e1215.trans eX)))
      have fX := ((f5.ex e57).exj (j2.ex e27) x8).ex (e9.trans (e9b.trans (e1215.trans eX)))
      have hAX := (e9.trans (e9b.trans (e1215.trans eX))) _ _ hA8
      have xX : Exj j H HX := x1.trans (x2.trans (x28.trans (Exj.of (e9.trans (e9b.trans (e1215.trans eX))))))
      refine ⟨_, rfl, j, (3 : Nat), _, rfl, jX, by omega, by omega, fun S ss H20 nS nSj x20 j20 hS sl vd ms => ?_⟩
      refine st_eq (σ' := [some (.ref j), some (.int F), some (.ref A), some (.ref q3), some (.bl (formL cs).2), some v5, some (.ref B), some _, some _, none, none, none, none]) (P := fun σ => gName 9 (V.ref S) σ H20 _) rfl ?_
      have f20 := fX.exj jX x20
      have hA20 := x20 _ _ nAj hAX
      obtain ⟨u20, hu20, hk20⟩ := id hS
      have ssl : ss.length ≤ 100 := by omega
      refine ⟨_, rfl, _, rfl, S, rfl, ⟨_, sqI hu20⟩, fun D21 nD21 => lc_objL (K := K) (a := S) (R := KyX K D21) (ys := sh F ss) (sqI hu20) nD21 (by unfold sh; rw [List.length_map]; exact (hk20).1.symm) (by rw [(hk20).1]; exact Nat.le_trans (show _ ≤ 100 by first | assumption | omega) (by decide)) (fun H' H'' v y r e => r.exj e) ?_ ?_⟩
      · intro i x y H' e' dn hx hy N Z kN
        obtain ⟨k', hki, q', rfl, hq'⟩ := AllR.get hk20 hx
        unfold sh at hy
        rw [List.getElem?_map, hki] at hy
        cases hy
        refine ⟨_, _, rfl, Evl.ex_t e' hq', rfl, _, _, rfl, _, _, rfl, rfl, rfl, ?_⟩
        show _
        exact ⟨_, rfl, _, rfl, _, _, rfl, rfl, _, rfl, (by show 2 ≤ sizeLine; decide), fun t H2 n2 e2 h2 => kN _ H2 e2 ⟨t, rfl, fun z => dn (z ▸ n2), sqT h2⟩⟩
      intro H21 us21 e21 d21 aus21
      have Lus21 : LsK K H21 D21 (sh F ss) := ⟨us21, d21, aus21.mono fun v x r => r.r⟩
      have ks0 := keys_sh F0 vd (nn ms)
      refine ⟨v5, D21, _, sh F ss, rfl, f20.ex e21, Lus21, by have := form_len (cs.map (· + F)); rw [List.length_map] at this; omega, by rw [sh_len]; omega, hasForm_of m0, ks0, form_ne, fun R H22 nR e22 hR => ?_⟩
      refine st_eq (σ' := [some (.ref j), some (.int F), some (.ref A), some (.ref q3), some (.bl (formL cs).2), some v5, some (.ref B), some _, some _, some (.ref S), none, none, none]) (P := fun σ => gName 10 (V.ref R) σ H22 _) rfl ?_
      have e2022 := e21.trans e22
      refine ⟨_, rfl, _, rfl, _, rfl, S, A, ss, cs, rfl, hS.ex e2022, sqI (e2022 _ _ hA20), by omega, fun q23 H23 e23 L23 => ?_⟩
      obtain ⟨u23, hu23, hk23⟩ := id L23
      have al23 : (afterL ss cs).length ≤ 100 := by have := after_len cs ss; omega
      refine ⟨q23, rfl, ⟨_, sqI hu23⟩, fun D24 nD24 => lc_objL (K := K) (a := q23) (R := KyX K D24) (ys := sh F (afterL ss cs)) (sqI hu23) nD24 (by unfold sh; rw [List.length_map]; exact (hk23).1.symm) (by rw [(hk23).1]; exact Nat.le_trans (show _ ≤ 100 by first | assumption | omega) (by decide)) (fun H' H'' v y r e => r.exj e) ?_ ?_⟩
      · intro i x y H' e' dn hx hy N Z kN
        obtain ⟨k', hki, q', rfl, hq'⟩ := AllR.get hk23 hx
        unfold sh at hy
        rw [List.getElem?_map, hki] at hy
        cases hy
        refine ⟨_, _, rfl, Evl.ex_t e' hq', rfl, _, _, rfl, _, _, rfl, rfl, rfl, ?_⟩
        show _
        exact ⟨_, rfl, _, rfl, _, _, rfl, rfl, _, rfl, (by show 2 ≤ sizeLine; decide), fun t H2 n2 e2 h2 => kN _ H2 e2 ⟨t, rfl, fun z => dn (z ▸ n2), sqT h2⟩⟩
      intro H24 us24 e24 d24 aus24
      have Lus24 : LsK K H24 D24 (sh F (afterL ss cs)) := ⟨us24, d24, aus24.mono fun v x r => r.r⟩
      refine eqE (goodL goodK) (by decide) (hR.ex (e23.trans e24)).dp Lus24.dp ?_
      have md : madeOf (formL (cs.map (· + F))) (sh F ss) = sh F (afterL ss cs) := by rw [made_after _ (vk_sh vd), after_sh]
      rw [decide_eq_true md]
      exact k H24 (xX.trans (x20.trans (Exj.of (e2022.trans (e23.trans e24))))) ((j20.ex (e2022.trans (e23.trans e24))).mono (by omega))
end
end K09
set_option Elab.async false
set_option pp.maxSteps 1200
set_option linter.all false
set_option maxRecDepth 100000
set_option maxHeartbeats 4000000
namespace K09
open PySem L2 My
def pickL (ps ns : List Int) : List Int := ns.map fun i => ps.getD i.toNat 0
theorem many_pick {ps ns : List Int} (h : Many 60 ps) (hn : Many (ps.length : Nat) ns) : Many 60 (pickL ps ns) := fun c hc => by
  obtain ⟨i, hi, rfl⟩ := List.mem_map.mp hc
  have := hn i hi
  have hl : i.toNat < ps.length := by omega
  show 0 ≤ ps.getD i.toNat 0 ∧ ps.getD i.toNat 0 < 60
  rw [List.getD_eq_getElem?_getD, List.getElem?_eq_getElem hl]
  exact h _ (List.getElem_mem hl)
theorem at_pick {ps : List Int} {i : Int} (h0 : 0 ≤ i) (h : i < (ps.length : Nat)) : atI (ps.map V.int) i = some (.int (ps.getD i.toNat 0)) := by
  refine at_of (j := i.toNat) (by omega) ?_
  have hl : i.toNat < ps.length := by omega
  rw [List.getElem?_map, List.getD_eq_getElem?_getD, List.getElem?_eq_getElem hl]
  rfl
theorem Deck.ne' {H : Hp} {j p : Addr} {n : Int} (d : Deck H j n) (h : H p = some (.lst [])) : p ≠ j := by
  rintro rfl
  obtain ⟨x, y, z, hj, _⟩ := d
  rw [h] at hj
  cases hj
section
variable {w : World} {K : PySem.W.Frag} {mg : Str → Option Value} {base : Heap}
theorem ok__law_many_right (T : Txt K mg) : FnOk PR w K mg base CX0 5 T.a__law_many_right T.d__law_many_right ["_law_deck"] sp__law_right0 := by
  refine T.f__law_many_right.ok sc__law_many_right (fun vs H Q E h => ?_) (fun cdv A outer s H vs Q E hr h => ?_)
  · obtain ⟨j, n, rfl, _⟩ := h
    rfl
  · obtain ⟨j, n, rfl, hj, hn, k⟩ := h
    refine ⟨_, (pss_cons (ps_set (i := 1) sc__law_many_right.nd rfl (by first | exact Or.inl rfl | exact Or.inr rfl) (pe_lc (own := [("_law_turn", 5)]) (g := gName 5) (by rfl) sc__law_many_right.nd (pi_range1 (by rfl) T.z_range (pa_cons (pe_op op_add pe_int (pe_call (ok__law_draw T) (hr.mono (by decide)) (by rfl) T.g__law_draw T.f__law_draw.kp (b__law_draw T) .nil pass0 (pa_cons (pv 0) (pa_cons pe_int pa_nil)))) pa_nil)) (blkOk_by (own := [("_law_turn", 5)]) (N := ["_law_deck", "_law_places", "_law_clicks_here", "_law_form", "_law_keys_here", "_law_turn", "_law_number"]) (sc := (defScope s__law_many_right)) (by decide +kernel)) (fun _ _ _ _ _ => (pg_name (i := 5) sc__law_many_right.nd rfl (by first | exact Or.inl rfl | exact Or.inr rfl))) (fun _ _ _ _ _ => pts_nil) (fun _ _ _ _ _ => (pe_call (ok__law_draw T) (hr.mono (by decide)) (by rfl) T.g__law_draw T.f__law_draw.kp (b__law_draw T) .nil pass0 (pa_cons (pv 0) (pa_cons pe_int pa_nil)))))) (pss_cons (ps_setLc (i := 2) (own := [("_law_number", 6)]) (g := gName 6) (by rfl) sc__law_many_right.nd rfl rfl (sw_true rfl rfl rfl (by decide +kernel)) (pi_list (pe_call (ok__law_clicks T) (hr.mono (by decide)) (by rfl) T.g__law_clicks T.f__law_clicks.kp (b__law_clicks T) .nil pass0 (pa_cons (pv 0) (pa_cons (pe_callB call_len_seq (by rfl) T.z_len PySem.boot_len (pa_cons (pv 1) pa_nil)) (pa_cons (pe_ix ix_list (pe_lstG (pa_cons pe_int (pa_cons pe_int pa_nil))) (pe_callTy call_int1 (by rfl) T.z_int (by decide +kernel) (pa_cons (pe_cmpR op_eq (pe_call (ok__law_draw T) (hr.mono (by decide)) (by rfl) T.g__law_draw T.f__law_draw.kp (b__law_draw T) .nil pass0 (pa_cons (pv 0) (pa_cons pe_int pa_nil))) pe_int (nomark _)) pa_nil)) (fun _ _ => rfl)) pa_nil))))) (blkOk_by (own := [("_law_number", 6)]) (N := ["_law_deck", "_law_places", "_law_clicks_here", "_law_form", "_law_keys_here", "_law_turn", "_law_number"]) (sc := (defScope s__law_many_right)) (by decide +kernel)) (fun _ _ _ _ _ => (pg_name (i := 6) sc__law_many_right.nd rfl (by first | exact Or.inl rfl | exact Or.inr rfl))) (fun _ _ _ _ _ => pts_nil) (fun _ _ _ _ _ => (pe_ix (ixK (r := rIxL) (K := K) (by rfl) ix_list) (pv 1) (pv 6) (fun _ _ => rfl)))) (pss_cons (ps_set (i := 3) sc__law_many_right.nd rfl (by first | exact Or.inl rfl | exact Or.inr rfl) (pe_call (ok_form_of T) (hr.mono (by decide)) (by rfl) T.g_form_of T.f_form_of.kp (b_form_of T) .nil passL (pa_cons (pv 2) pa_nil))) (pss_cons (ps_if (PW.pt (pw_or (pt_cmpR (op_neD hr.units) (pv 3) (pe_tupG (pa_cons (pe_call (ok__law_after T) (hr.mono (by decide)) (by rfl) T.g__law_after T.f__law_after.kp (b__law_after T) .nil pass0 (pa_cons (pe_lstG pa_nil) (pa_cons (pv 2) pa_nil))) (pa_cons (pe_call (ok__law_bound T) (hr.mono (by decide)) (by rfl) T.g__law_bound T.f__law_bound.kp (b__law_bound T) .nil pass0 (pa_cons (pv 2) pa_nil)) pa_nil))) (nomark _)) (pw_or1 (pt_cmpR op_notBl (pe_call (ok_is_form T) (hr.mono (by decide)) (by rfl) T.g_is_form T.f_is_form.kp (b_is_form T) .nil pass0 (pa_cons (pv 3) pa_nil)) pe_bl (nomark _))))) (pss_one (ps_ret pe_bl)) pss_nil) (pss_cons (ps_set (i := 4) sc__law_many_right.nd rfl (by first | exact Or.inl rfl | exact Or.inr rfl) (pe_call (ok__law_after T) (hr.mono (by decide)) (by rfl) T.g__law_after T.f__law_after.kp (b__law_after T) .nil pass0 (pa_cons (pe_lstG pa_nil) (pa_cons (pe_lc (own := [("_law_number", 6)]) (g := gName 6) (by rfl) sc__law_many_right.nd (pi_list (pe_call (ok__law_clicks T) (hr.mono (by decide)) (by rfl) T.g__law_clicks T.f__law_clicks.kp (b__law_clicks T) .nil pass0 (pa_cons (pv 0) (pa_cons (pe_callB call_len_seq (by rfl) T.z_len PySem.boot_len (pa_cons (pv 1) pa_nil)) (pa_cons pe_int pa_nil))))) (blkOk_by (own := [("_law_number", 6)]) (N := ["_law_deck", "_law_places", "_law_clicks_here", "_law_form", "_law_keys_here", "_law_turn", "_law_number"]) (sc := (defScope s__law_many_right)) (by decide +kernel)) (fun _ _ _ _ _ => (pg_name (i := 6) sc__law_many_right.nd rfl (by first | exact Or.inl rfl | exact Or.inr rfl))) (fun _ _ _ _ _ => pts_nil) (fun _ _ _ _ _ => (pe_ix (ixK (r := rIxL) (K := K) (by rfl) ix_list) (pv 1) (pv 6) (fun _ _ => rfl)))) pa_nil)))) (pss_one (ps_ret (pe_cmpR (op_eqD hr.units) (pe_call (ok_formed T) (hr.mono (by decide)) (by rfl) T.g_formed T.f_formed.kp (b_formed T) .nil passL (pa_cons (pv 3) (pa_cons (pv 4) pa_nil))) (pe_call (ok__law_after T) (hr.mono (by decide)) (by rfl) T.g__law_after T.f__law_after.kp (b__law_after T) .nil pass0 (pa_cons (pv 4) (pa_cons (pv 2) pa_nil))) (nomark _))))))))), ?_⟩
    refine ⟨_, rfl, j, _, n, rfl, hj, by omega, by omega, by omega, fun d H1 d0 d1 x1 j1 => ?_⟩
    refine ⟨_, _, rfl, rfl, ?_⟩
    refine ⟨_, rfl, (show -(2 ^ 62) ≤ 1 + d by omega), (show 1 + d < 2 ^ 62 by omega), fun P nP => lc_range (lo := 0) (n := (1 + d).toNat) (fun i H2 => ∃ ps : List Int, Exj j H1 H2 ∧ Deck H2 j (n + 1 + i) ∧ H2 P = some (.lst (ps.map V.int)) ∧ ps.length = i ∧ Many 60 ps) ?_ ?_ ?_⟩
    · exact ⟨[], (Exj.refl _ _).new nP, (j1.upd (j1.ne nP)).mono (by omega), upd_same, rfl, fun t ht => (by cases ht)⟩
    · rintro i H2 hi ⟨ps, e2, j2, d2, l2, b2⟩
      have nPj := j1.ne nP
      refine ⟨rfl, ?_⟩
      show _
      refine ⟨_, rfl, j, _, _, rfl, j2, by omega, by decide, by decide, fun c H3 c0 c1 e3 j3 => ?_⟩
      refine ⟨ps.map V.int, e3 _ _ nPj d2, ?_, ps ++ [c], ?_, (j3.mono (by omega)).upd nPj, ?_, by simp [l2], fun t ht => ?_⟩
      · rw [List.length_map, l2]
        exact Nat.lt_of_lt_of_le (show i < 200 by omega) (by decide)
      · intro b o nb hb
        rw [upd_ne (ne_of_none hb nP)]
        exact e3 _ _ nb (e2 _ _ nb hb)
      · rw [upd_same, List.map_append]
        rfl
      · rcases List.mem_append.mp ht with z | z
        · exact b2 t z
        · have : t = c := by simpa using z
          rw [this]
          exact ⟨c0, c1⟩
    rintro H2 ⟨ps, x2, j2, hP, pl, mp⟩
    have nPj := j1.ne nP
    have pl1 : 1 ≤ ps.length := by omega
    have pl2 : ps.length ≤ 12 := by omega
    have j2 : Deck H2 j (n + 20) := j2.mono (by omega)
    refine ⟨_, rfl, _, rfl, _, _, rfl, .inl (sqI hP), (by show 2 ≤ sizeLine; decide), fun p3 H3 n3 e3 h3 => ?_⟩
    refine ⟨_, rfl, j, _, _, rfl, j2.ex e3, by omega, by decide, by decide, fun d4 H4 a4 b4 x4 j4 => ?_⟩
    have h4 := x4 _ _ ((j2.ne n3)) h3
    obtain ⟨mx, hmx, at4⟩ : ∃ mx : Int, (0 ≤ mx ∧ mx ≤ 60) ∧ atI [V.int 15, .int 60] (if decide (V.int d4 = V.int 0) = true then 1 else 0) = some (.int mx) := by
      cases decide (V.int d4 = V.int 0)
      · exact ⟨15, by omega, rfl⟩
      · exact ⟨60, by omega, rfl⟩
    refine ⟨rfl, .inr ⟨_, rfl, ?_⟩⟩
    refine ⟨_, _, _, _, rfl, rfl, sqI h4, at4, ?_⟩
    have hP4 := x4 _ _ nPj (e3 _ _ hP)
    rw [List.length_map]
    refine ⟨j, (ps.length : Nat), mx, _, rfl, j4, by omega, by omega, by omega, by omega, by omega, fun C ns H5 nC nCj x5 j5 hC nl mn => ?_⟩
    have hP5 := x5 _ _ nPj hP4
    have Cm := mn
    refine ⟨C, rfl, ⟨_, sqI hC⟩, fun A nA => lc_mapL (K := K) (a := C) (ys := (pickL ps ns).map V.int) (sqI hC) nA (by simp [pickL]) (by rw [List.length_map]; exact Nat.le_trans (show _ ≤ 100 by omega) (by decide)) (fun x => rfl) ?_ ?_⟩
    · intro i x y H' e' hx hy R kR
      obtain ⟨c, hc, rfl⟩ := mapI_get hx
      unfold pickL at hy
      rw [List.getElem?_map, List.getElem?_map, hc] at hy
      cases hy
      have bc := Cm c (List.mem_of_getElem? hc)
      exact ⟨_, rfl, _, rfl, _, _, _, _, rfl, rfl, Evl.ex_l e' (sqI hP5), at_pick bc.1 bc.2, kR H' (Evl.Ex.refl _)⟩
    intro H6 e6 hA
    obtain ⟨cs, hcs⟩ : ∃ cs, cs = pickL ps ns := ⟨_, rfl⟩
    have mc : Many 60 cs := by rw [hcs]; exact many_pick mp mn
    have cl : cs.length ≤ 60 := by rw [hcs]; unfold pickL; rw [List.length_map]; omega
    rw [← hcs] at hA
    have c0 := nn mc
    have fl := form_len cs
    have nAj : A ≠ j := j5.ne nA
    refine st_eq (σ' := [some (.ref j), some (.ref P), none, none, none, none, none]) (P := fun σ => gName 2 (V.ref A) σ H6 _) rfl ?_
    refine ⟨_, rfl, A, cs, rfl, sqI hA, by omega, c0, fun v7 H7 e7 f7 => ?_⟩
    have hA7 := e7 _ _ hA
    refine ⟨_, rfl, (by show 0 ≤ sizeLine; decide), fun p8 H8 n8 e8 h8 => ?_⟩
    refine ⟨_, rfl, p8, A, [], cs, rfl, ⟨[], h8, AllR.nil⟩, sqI (e8 _ _ hA7), by show 0 + cs.length ≤ 500; omega, fun q9 H9 e9 L9 => ?_⟩
    refine ⟨_, rfl, A, cs, rfl, sqI ((e8.trans e9) _ _ hA7), by omega, fun H10 e10 => ?_⟩
    refine ⟨(by show 2 ≤ sizeLine; decide), fun p11 H11 n11 e11 h11 => ?_⟩
    have e711 := e8.trans (e9.trans (e10.trans e11))
    have dq : Dp K H11 (.ref p11) (eF (formL cs)) := .tup (sqT h11) (.cons (L9.ex (e10.trans e11)).dp (.cons (.bl _) .nil))
    refine neE goodF (by decide) (f7.ex e711).dp dq ⟨_, rfl, ifF same ?_⟩
    refine ⟨_, rfl, v7, formL cs, rfl, (f7.ex e711).q, by omega, fun H12 e12 => ?_⟩
    rw [hasForm_of c0]
    refine ⟨_, _, rfl, rfl, _, rfl, ?_⟩
    have e712 := e711.trans e12
    have e512 := e6.trans (e7.trans e712)
    have j12 := j5.ex e512
    have f12 := f7.ex e712
    have hA12 := e712 _ _ hA7
    refine st_eq (σ' := [some (.ref j), some (.ref P), some (.ref A), some v7, none, none, none]) (P := fun σ => tNext _ σ H12) rfl ?_
    refine ⟨(by show 0 ≤ sizeLine; decide), fun p13 H13 n13 e13 h13 => ?_⟩
    refine ⟨_, rfl, _, rfl, _, _, rfl, .inl (sqI ((e512.trans e13) _ _ hP5)), ?_⟩
    rw [List.length_map]
    refine ⟨j, (ps.length : Nat), 9, _, rfl, j12.ex e13, by omega, by omega, by omega, by omega, by omega, fun C2 ns2 H14 nC2 nC2j x14 j14 hC2 nl2 mn2 => ?_⟩
    have hP14 := x14 _ _ nPj ((e512.trans e13) _ _ hP5)
    have h13' := x14 _ _ ((j12.ex e13).ne' h13) h13
    have C2m := mn2
    refine ⟨C2, rfl, ⟨_, sqI hC2⟩, fun B nB => lc_mapL (K := K) (a := C2) (ys := (pickL ps ns2).map V.int) (sqI hC2) nB (by simp [pickL]) (by rw [List.length_map]; exact Nat.le_trans (show _ ≤ 100 by omega) (by decide)) (fun x => rfl) ?_ ?_⟩
    · intro i x y H' e' hx hy R kR
      obtain ⟨c, hc, rfl⟩ := mapI_get hx
      unfold pickL at hy
      rw [List.getElem?_map, List.getElem?_map, hc] at hy
      cases hy
      have bc := C2m c (List.mem_of_getElem? hc)
      exact ⟨_, rfl, _, rfl, _, _, _, _, rfl, rfl, Evl.ex_l e' (sqI hP14), at_pick bc.1 bc.2, kR H' (Evl.Ex.refl _)⟩
    intro H15 e15 hB
    obtain ⟨bs, hbs⟩ : ∃ bs, bs = pickL ps ns2 := ⟨_, rfl⟩
    have mb : Many 60 bs := by rw [hbs]; exact many_pick mp mn2
    have bl : bs.length ≤ 60 := by rw [hbs]; unfold pickL; rw [List.length_map]; omega
    rw [← hbs] at hB
    refine ⟨p13, B, [], bs, rfl, ⟨[], e15 _ _ h13', AllR.nil⟩, sqI hB, by show 0 + bs.length ≤ 500; omega, fun q16 H16 e16 L16 => ?_⟩
    have L16 : LsK K H16 q16 (afterL [] bs) := L16
    have f14 := (f12.ex e13).exj (j12.ex e13) x14
    have e1416 := e15.trans e16
    have hA14 := x14 _ _ nAj (e13 _ _ hA12)
    have al := after_len bs []
    have al : (afterL [] bs).length ≤ 60 := by simp at al; omega
    have vb : Vd (afterL [] bs) := vk_after bs
    have kb : areKeys (afterL [] bs) = true := areKeys_of vb fun x hx => by
      rcases after_cols.mp hx with z | z
      · exact nn mb x z
      · cases z
    refine ⟨_, rfl, _, rfl, v7, q16, formL cs, _, rfl, f14.ex e1416, L16, by omega, by omega, hasForm_of c0, kb, form_ne, fun R H17 nR e17 hR => ?_⟩
    refine ⟨_, rfl, _, rfl, q16, A, _, cs, rfl, L16.ex e17, sqI ((e1416.trans e17) _ _ hA14), by omega, fun q18 H18 e18 L18 => ?_⟩
    refine eqE (goodL goodK) (by decide) (hR.ex e18).dp L18.dp ?_
    rw [decide_eq_true (made_after cs vb)]
    have eE := e1416.trans (e17.trans e18)
    refine k H18 (x1.trans (x2.trans ((Exj.of e3).trans (x4.trans (x5.trans ((Exj.of (e512.trans e13)).trans (x14.trans (Exj.of eE)))))))) ((j14.ex eE).mono (by omega))
end
end K09
set_option Elab.async false
set_option pp.maxSteps 1200
set_option linter.all false
set_option maxRecDepth 100000
set_option maxHeartbeats 4000000
namespace K09
open PySem L2 My
def optE {α : Type} (e : α → PyData) : Option α → PyData
  | none => .none
  | some x => e x
theorem goodOpt {α : Type} [DecidableEq α] {e : α → PyData} {n : Nat} (g : Good e n) (h : ∀ x, PyData.eqv .none (e x) = false ∧ PyData.eqv (e x) .none = false) : Good (optE e) n := ⟨fun x => by
    cases x with
    | none => rfl
    | some x => exact g.lay x, fun x => by
    cases x with
    | none => exact Nat.zero_le _
    | some x => exact g.dep x, fun x y => by
    cases x with
    | none =>
      cases y with
      | none => rfl
      | some y => exact ((h y).1).trans (by simp)
    | some x =>
      cases y with
      | none => exact ((h x).2).trans (by simp)
      | some y =>
        show PyData.eqv (e x) (e y) = _
        rw [g.eqv, Bool.eq_iff_iff]
        simp⟩
theorem goodOK : Good (optE (eL eK)) 2 := goodOpt (goodL goodK) fun x => ⟨rfl, rfl⟩
theorem OptK.dp {K : PySem.W.Frag} {H : Hp} {v : V} {o : Option (List Ky)} (h : OptK K H v o) : Dp K H v (optE (eL eK) o) := by
  cases o with
  | none =>
    have h : v = .non := h
    rw [h]
    exact .non
  | some ks =>
    obtain ⟨p, rfl, hp⟩ := h
    exact hp.dp
theorem OptK.ex {K : PySem.W.Frag} {H H' : Hp} {v : V} {o : Option (List Ky)} (h : OptK K H v o) (e : Ex H H') : OptK K H' v o := by
  cases o with
  | none => exact h
  | some ks => exact let ⟨p, a, b⟩ := h; ⟨p, a, b.ex e⟩
theorem fa_comm (f g : Fm) : firstA f g = firstA g f := by
  unfold firstA
  by_cases e : f = g
  · rw [e]
  · rw [if_neg e, if_neg (show ¬ g = f from fun z => e z.symm)]
    by_cases d : f.1 = g.1
    · rw [if_neg (not_not_intro d), if_neg (show ¬ g.1 ≠ f.1 from not_not_intro d.symm), d]
    · rw [if_pos d, if_pos (show g.1 ≠ f.1 from fun z => d z.symm)]
theorem shwCs {w : Int} {cs : List Int} (hw : w ≤ 100) (hl : cs.length ≤ 30) (h : Many w cs) : Shw (eL PyData.int cs) 1 100000 := by
  refine (Shw.ints (b := 100) (by decide) fun c hc => ?_).mono (Nat.le_refl _) (by omega)
  have := h c hc
  omega
theorem shwOne {w : Int} {cs : List Int} (hw : w ≤ 100) (hl : cs.length ≤ 30) (h : Many w cs) : Shw (eL PyData.int cs) 60 sizeLine := (shwCs hw hl h).mono (by decide) (by decide)
theorem shwTwo {w : Int} {cs ds : List Int} (hw : w ≤ 100) (hl : cs.length ≤ 30) (h : Many w cs) (hm : ds.length ≤ 30) (k : Many w ds) : Shw (eL (eL PyData.int) [cs, ds]) 60 sizeLine := by
  refine (Shw.list (n := 1) (M := 100000) fun x hx => ?_).mono (by decide) (by show 2 + 2 * (100000 + 2) ≤ sizeLine; decide)
  rcases List.mem_cons.mp hx with z | z
  · rw [z]; exact shwCs hw hl h
  · rw [List.mem_singleton.mp z]; exact shwCs hw hm k
def sp__law_alike_right (K : PySem.W.Frag) : Sp := fun vs H Q _ => ∃ (w : Nat) (A B : Addr) (cs ds : List Int), vs = [.int (w : Nat), .ref A, .ref B] ∧ 1 ≤ w ∧ w ≤ 3 ∧ SqL K H A (cs.map V.int) ∧ SqL K H B (ds.map V.int) ∧ cs.length ≤ 30 ∧ ds.length ≤ 30 ∧ Many w cs ∧ Many w ds ∧ Evl.RetV (.bl true) H Q
section
variable {w : World} {K : PySem.W.Frag} {mg : Str → Option Value} {base : Heap}
theorem ok__law_alike_right (T : Txt K mg) : FnOkG PR w K mg base CX0 6 T.a__law_alike_right T.d__law_alike_right ["_law_width", "_law_one", "_law_other_here"] (sp__law_alike_right K) := by
  refine T.f__law_alike_right.okG sc__law_alike_right (fun vs H Q E h => ?_) (fun cdv A outer s H vs Q E hr gd h => ?_)
  · obtain ⟨w, A, B, cs, ds, rfl, _⟩ := h
    rfl
  · obtain ⟨w, A, B, cs, ds, rfl, w1, w3, hA, hB, cl, dl, mc, md, k⟩ := h
    refine ⟨_, (pss_cons (ps_setLc (i := 3) (own := [("_law_keys_here", 6)]) (g := gName 6) (by rfl) sc__law_alike_right.nd rfl rfl (sw_true rfl rfl rfl (by decide +kernel)) (pi_list (pe_call (ok__law_every T) (hr.mono (by decide)) (by rfl) T.g__law_every T.f__law_every.kp (b__law_every T) .nil pass0 (pa_cons (pv 0) pa_nil))) (blkOk_by (own := [("_law_keys_here", 6)]) (N := ["_law_width", "_law_one", "_law_other_here", "_law_apart", "_law_due", "_law_kept", "_law_keys_here"]) (sc := (defScope s__law_alike_right)) (by decide +kernel)) (fun _ _ _ _ _ => (pg_name (i := 6) sc__law_alike_right.nd rfl (by first | exact Or.inl rfl | exact Or.inr rfl))) (fun _ _ _ _ _ => (pts_one (pt_cmpR (opK (r := rNeD) (K := K) (by rfl) (op_neD hr.units)) (pe_call (ok__law_after T) (hr.mono (by decide)) (by rfl) T.g__law_after T.f__law_after.kp (b__law_after T) .nil pass0 (pa_cons (pv 6) (pa_cons (pv 1) pa_nil))) (pe_call (ok__law_after T) (hr.mono (by decide)) (by rfl) T.g__law_after T.f__law_after.kp (b__law_after T) .nil pass0 (pa_cons (pv 6) (pa_cons (pv 2) pa_nil))) (nomark _)))) (fun _ _ _ _ _ => (pv 6))) (pss_cons (ps_set (i := 4) sc__law_alike_right.nd rfl (by first | exact Or.inl rfl | exact Or.inr rfl) (pe_ix ix_list (pe_op op_catG (pv 3) (pe_lstG (pa_cons pe_non pa_nil))) pe_int (fun _ _ => rfl))) (pss_cons (ps_set (i := 5) sc__law_alike_right.nd rfl (by first | exact Or.inl rfl | exact Or.inr rfl) (pe_callB (cr_reprA gd hr.units) (by rfl) T.z_repr (by decide +kernel) (pa_cons (pe_lstG (pa_cons (pv 1) (pa_cons (pv 2) pa_nil))) pa_nil))) (pss_cons (ps_if (PW.pt (pw_or (pt_not (pt_val (pe_call (ok__law_says T) (hr.mono (by decide)) (by rfl) T.g__law_says T.f__law_says.kp (b__law_says T) .nil pass0 (pa_cons (pe_call (ok_alike T) (hr.mono (by decide)) (by rfl) T.g_alike T.f_alike.kp (b_alike T) .nil passL (pa_cons (pv 1) (pa_cons (pv 2) pa_nil))) (pa_cons (pe_cmpR (op_eqD hr.units) (pv 3) (pe_lstG pa_nil) (nomark _)) pa_nil))))) (pw_or1 (pt_not (pt_val (pe_call (ok__law_says T) (hr.mono (by decide)) (by rfl) T.g__law_says T.f__law_says.kp (b__law_says T) .nil pass0 (pa_cons (pe_callK0 (ok_alike T) (hr.mono (by decide)) (by rfl) T.g_alike T.f_alike.kp (kb_alike_0_other_one T) passL (pk_cons (pv 1) (pk_cons (pv 2) pk_nil))) (pa_cons (pe_cmpR (op_eqD hr.units) (pv 3) (pe_lstG pa_nil) (nomark _)) pa_nil)))))))) (pss_one (ps_ret pe_bl)) pss_nil) (pss_cons (ps_if (PW.pt (pw_or (pt_cmpR (op_neD hr.units) (pe_call (ok_first_apart T) (hr.mono (by decide)) (by rfl) T.g_first_apart T.f_first_apart.kp (b_first_apart T) .nil passL (pa_cons (pv 1) (pa_cons (pv 2) pa_nil))) (pv 4) (nomark _)) (pw_or1 (pt_cmpR (op_neD hr.units) (pe_callK0 (ok_first_apart T) (hr.mono (by decide)) (by rfl) T.g_first_apart T.f_first_apart.kp (kb_first_apart_0_other_one T) passL (pk_cons (pv 1) (pk_cons (pv 2) pk_nil))) (pv 4) (nomark _))))) (pss_one (ps_ret pe_bl)) pss_nil) (pss_one (ps_ret (pe_cmpR op_eq (pe_callB (cr_reprA gd hr.units) (by rfl) T.z_repr (by decide +kernel) (pa_cons (pe_lstG (pa_cons (pv 1) (pa_cons (pv 2) pa_nil))) pa_nil)) (pv 5) (nomark _))))))))), ?_⟩
    have c0 := nn mc
    have d0 := nn md
    refine ⟨_, rfl, w, rfl, w1, w3, fun E0 H1 us e1 hE aE => ?_⟩
    have ul : us.length ≤ 1000 := by
      have := every_le w3 w w3
      have h2 : us.length = (everyN w w).length := aE.1
      omega
    refine ⟨E0, rfl, ⟨_, sqI hE⟩, fun D hD => lc_filtO (K := K) (a := E0) (R := LsR K H1) (ys := everyL w) (p := apartP cs ds) (sqI hE) aE hD ul (fun x => rfl) ?_ ?_ ?_⟩
    · rintro v y H' hy ⟨q, rfl, hq⟩ e' Z kZ
      have yl := every_size hy
      refine ⟨_, rfl, _, rfl, q, A, y, cs, rfl, hq.ex e', Evl.ex_l (e1.trans e') hA, by omega, fun q1 H2 e2 L2 => ?_⟩
      refine ⟨_, rfl, _, rfl, q, B, y, ds, rfl, hq.ex (e'.trans e2), Evl.ex_l (e1.trans (e'.trans e2)) hB, by omega, fun q2 H3 e3 L3 => ?_⟩
      exact neE (goodL goodK) (by decide) (L2.ex e3).dp L3.dp ⟨_, rfl, kZ H3 (e2.trans e3)⟩
    · intro v H' N kN
      exact ⟨_, rfl, kN⟩
    intro H2 us2 e2 d2 r2
    obtain ⟨fl, hfl⟩ : ∃ fl, fl = (everyL w).filter (apartP cs ds) := ⟨_, rfl⟩
    rw [← hfl] at r2
    have hd : fl.head? = firstA (formL cs) (formL ds) := by rw [hfl, List.head?_filter]; exact apart_first w1 mc md
    have fe : decide (fl = []) = decide (formL cs = formL ds) := by
      rw [← fa_none, ← hd]
      cases fl <;> rfl
    have l2 := r2.1
    have fll : fl.length ≤ 1000 := by
      rw [hfl]
      have := List.length_filter_le (apartP cs ds) (everyL w)
      have h2 : us.length = (everyL w).length := aE.1
      omega
    have e02 := e1.trans e2
    refine st_eq (σ' := [some (.int (w : Nat)), some (.ref A), some (.ref B), none, none, none, none]) (P := fun σ => gName 3 (V.ref D) σ H2 _) rfl ?_
    refine ⟨_, rfl, (by show 1 ≤ sizeLine; decide), fun p3 H3 n3 e3 h3 => ?_⟩
    refine ⟨_, _, _, _, rfl, rfl, e3 _ _ d2, h3, Nat.le_trans (show us2.length + 1 ≤ 2000 by omega) (by decide), fun p4 H4 n4 e4 h4 => ?_⟩
    obtain ⟨dv, hdv, od⟩ : ∃ dv, atI (us2 ++ [V.non]) 0 = some dv ∧ OptK K H4 dv (firstA (formL cs) (formL ds)) := by
      rw [← hd]
      cases us2 with
      | nil =>
        cases fl with
        | nil => exact ⟨_, at0, rfl⟩
        | cons x xs => cases l2
      | cons u t =>
        cases fl with
        | nil => cases l2
        | cons x xs =>
          obtain ⟨p, rfl, L⟩ := r2.2 0 u x rfl rfl
          exact ⟨_, at0, p, rfl, L.ex (e2.trans (e3.trans e4))⟩
    refine ⟨_, _, _, _, rfl, rfl, sqI h4, hdv, ?_⟩
    have e04 := e02.trans (e3.trans e4)
    have d4 := (e3.trans e4) _ _ d2
    have dpA : ∀ {H' : Hp}, Ex H4 H' → Dp K H' (.ref D) (eL (eL eK) fl) := fun e => .lst (sqI (e _ _ d4)) (r2.dp fun v x ⟨p, a, L⟩ => by rw [a]; exact (L.ex (e2.trans (e3.trans (e4.trans e)))).dp)
    have aA : ∀ {H' : Hp}, Ex H4 H' → SqL K H' A (cs.map V.int) := fun e => Evl.ex_l (e04.trans e) hA
    have aB : ∀ {H' : Hp}, Ex H4 H' → SqL K H' B (ds.map V.int) := fun e => Evl.ex_l (e04.trans e) hB
    refine st_eq (σ' := [some (.int (w : Nat)), some (.ref A), some (.ref B), some (.ref D), none, none, none]) (P := fun σ => gName 4 dv σ H4 _) rfl ?_
    have w100 : ((w : Nat) : Int) ≤ 100 := by omega
    refine ⟨_, rfl, _, rfl, (by show 2 ≤ sizeLine; decide), fun p5 H5 n5 e5 h5 => ?_⟩
    refine ⟨_, eL (eL PyData.int) [cs, ds], rfl, .lst (sqI h5) (.cons (dpL (aA e5)) (.cons (dpL (aB e5)) .nil)), shwTwo w100 cl mc dl md, ?_⟩
    refine ⟨_, rfl, _, rfl, A, B, cs, ds, rfl, aA e5, aB e5, by omega, by omega, c0, d0, fun H6 e6 => ?_⟩
    refine ⟨_, rfl, (by show 0 ≤ sizeLine; decide), fun p7 H7 n7 e7 h7 => ?_⟩
    have e47 := e5.trans (e6.trans e7)
    refine eqE (goodL (goodL goodK)) (by decide) (x := fl) (y := []) (dpA e47) (nilD h7) ?_
    refine ⟨_, _, rfl, ?_⟩
    rw [fe, decide_eq_true rfl]
    refine ⟨_, rfl, ifF rfl ?_⟩
    refine ⟨_, rfl, _, rfl, B, A, ds, cs, rfl, aB e47, aA e47, by omega, by omega, d0, c0, fun H8 e8 => ?_⟩
    refine ⟨_, rfl, (by show 0 ≤ sizeLine; decide), fun p9 H9 n9 e9 h9 => ?_⟩
    have e49 := e47.trans (e8.trans e9)
    refine eqE (goodL (goodL goodK)) (by decide) (x := fl) (y := []) (dpA e49) (nilD h9) ?_
    refine ⟨_, _, rfl, ?_⟩
    have fe2 : decide (fl = []) = decide (formL ds = formL cs) := by
      rw [fe, decide_eq_decide]
      exact ⟨Eq.symm, Eq.symm⟩
    rw [fe2, decide_eq_true rfl]
    refine ⟨_, rfl, ifF rfl ?_⟩
    refine ⟨_, rfl, _, rfl, A, B, cs, ds, rfl, aA e49, aB e49, by omega, by omega, c0, d0, fun v10 H10 e10 o10 => ?_⟩
    have e410 := e49.trans e10
    refine ⟨_, rfl, neE goodOK (by decide) o10.dp (od.ex e410).dp ⟨_, rfl, ifF same ?_⟩⟩
    refine ⟨_, rfl, _, rfl, B, A, ds, cs, rfl, aB e410, aA e410, by omega, by omega, d0, c0, fun v11 H11 e11 o11 => ?_⟩
    have e411 := e410.trans e11
    rw [fa_comm] at o11
    refine ⟨_, rfl, neE goodOK (by decide) o11.dp (od.ex e411).dp ⟨_, rfl, ifF same ?_⟩⟩
    refine ⟨_, rfl, _, rfl, (by show 2 ≤ sizeLine; decide), fun p12 H12 n12 e12 h12 => ?_⟩
    refine ⟨_, eL (eL PyData.int) [cs, ds], rfl, .lst (sqI h12) (.cons (dpL (aA (e411.trans e12))) (.cons (dpL (aB (e411.trans e12))) .nil)), shwTwo w100 cl mc dl md, ?_⟩
    refine ⟨_, rfl, rfl, ?_⟩
    rw [decide_eq_true rfl]
    exact k H12 (e04.trans (e411.trans e12))
end
end K09
set_option Elab.async false
set_option pp.maxSteps 1200
set_option linter.all false
set_option maxRecDepth 100000
set_option maxHeartbeats 4000000
namespace K09
open PySem L2 My
def KsOk (w : Int) (ks : List Ky) : Prop := Vd ks ∧ Many w (cols ks) ∧ ks.length ≤ 5
/-- a list of keys, neither at j nor at D -/
def LsX2 (K : PySem.W.Frag) (j D : Addr) (H : Hp) (v : V) (ks : List Ky) : Prop := ∃ p, v = .ref p ∧ p ≠ j ∧ p ≠ D ∧ LsK K H p ks
theorem LsX2.j {K : PySem.W.Frag} {H H' : Hp} {j D : Addr} {ys : List V} {v : V} {ks : List Ky} (h : LsX2 K j D H v ks) (e : Exj j H H') (hj : H j = some (.lst ys)) : LsX2 K j D H' v ks := let ⟨p, a, n, m, b⟩ := h; ⟨p, a, n, m, b.exj e n hj⟩
theorem LsX2.D {K : PySem.W.Frag} {H H' : Hp} {j D : Addr} {ys : List V} {v : V} {ks : List Ky} (h : LsX2 K j D H v ks) (e : Exj D H H') (hD : H D = some (.lst ys)) : LsX2 K j D H' v ks := let ⟨p, a, n, m, b⟩ := h; ⟨p, a, n, m, b.exj e m hD⟩
theorem keys_ok {w : Int} {ks : List Ky} (h : KsOk w ks) : areKeys ks = true := areKeys_of h.1 (nn h.2.1)
theorem none_ne (ks : List Ky) : ¬ (ks.map some = ks.map some ++ [none]) := fun z => by
  have := congrArg List.length z
  rw [List.length_append] at this
  simp at this
theorem goodON : Good (eL (optE eK)) 2 := goodL (goodOpt goodK fun x => ⟨rfl, rfl⟩)
theorem KsAt.dpO {K : PySem.W.Frag} {H : Hp} {us : List V} {ks : List Ky} (h : KsAt K H us ks) : DpAll K H us ((ks.map some).map (optE eK)) := by
  have e : (ks.map some).map (optE eK) = ks.map eK := by
    rw [List.map_map]
    rfl
  rw [e]
  exact AllR.dp h fun v x r => r.dp
def sp__law_right : Sp := fun vs H Q _ => ∃ (j : Addr), vs = [.ref j] ∧ Deck H j 0 ∧ ∀ H', Exj j H H' → Q (.bl true) H'
def sp_law (K : PySem.W.Frag) : Sp := fun vs H Q _ => ∃ (a : Addr) (ns : List Int), vs = [.ref a] ∧ SqL K H a (ns.map V.int) ∧ ns.length ≤ 63 ∧ ∀ H', Q (.bl true) H'
section
variable {w : World} {K : PySem.W.Frag} {mg : Str → Option Value} {base : Heap}
theorem ok__law_right (T : Txt K mg) : FnOkG PR w K mg base CX0 7 T.a__law_right T.d__law_right ["_law_deck"] sp__law_right := by
  refine T.f__law_right.okG sc__law_right (fun vs H Q E h => ?_) (fun cdv A outer s H vs Q E hr gd h => ?_)
  · obtain ⟨j, rfl, _⟩ := h
    rfl
  · obtain ⟨j, rfl, hj, k⟩ := h
    refine ⟨_, (pss_cons (ps_set (i := 1) sc__law_right.nd rfl (by first | exact Or.inl rfl | exact Or.inr rfl) (pe_op op_add pe_int (pe_call (ok__law_draw T) (hr.mono (by decide)) (by rfl) T.g__law_draw T.f__law_draw.kp (b__law_draw T) .nil pass0 (pa_cons (pv 0) (pa_cons (pe_ix ix_list (pe_lstG (pa_cons pe_int (pa_cons pe_int (pa_cons pe_int (pa_cons pe_int pa_nil))))) (pe_call (ok__law_draw T) (hr.mono (by decide)) (by rfl) T.g__law_draw T.f__law_draw.kp (b__law_draw T) .nil pass0 (pa_cons (pv 0) (pa_cons pe_int pa_nil))) (fun _ _ => rfl)) pa_nil))))) (pss_cons (ps_set (i := 2) sc__law_right.nd rfl (by first | exact Or.inl rfl | exact Or.inr rfl) (pe_call (ok__law_clicks T) (hr.mono (by decide)) (by rfl) T.g__law_clicks T.f__law_clicks.kp (b__law_clicks T) .nil pass0 (pa_cons (pv 0) (pa_cons (pv 1) (pa_cons pe_int pa_nil))))) (pss_cons (ps_set (i := 3) sc__law_right.nd rfl (by first | exact Or.inl rfl | exact Or.inr rfl) (pe_call (ok__law_other T) (hr.mono (by decide)) (by rfl) T.g__law_other T.f__law_other.kp (b__law_other T) .nil pass0 (pa_cons (pv 0) (pa_cons (pv 1) (pa_cons (pv 2) pa_nil))))) (pss_cons (ps_for PassesOwn.never rfl (pi_list (pe_lstG (pa_cons (pv 2) (pa_cons (pv 3) pa_nil)))) (pg_name (i := 4) sc__law_right.nd rfl (by first | exact Or.inl rfl | exact Or.inr rfl)) (pss_cons (ps_set (i := 5) sc__law_right.nd rfl (by first | exact Or.inl rfl | exact Or.inr rfl) (pe_callB (cr_reprA gd hr.units) (by rfl) T.z_repr (by decide +kernel) (pa_cons (pv 4) pa_nil))) (pss_cons (ps_set (i := 6) sc__law_right.nd rfl (by first | exact Or.inl rfl | exact Or.inr rfl) (pe_call (ok_form_of T) (hr.mono (by decide)) (by rfl) T.g_form_of T.f_form_of.kp (b_form_of T) .nil passL (pa_cons (pv 4) pa_nil))) (pss_cons (ps_if (PW.pt (pw_or (pt_cmpR (op_neD hr.units) (pv 6) (pe_tupG (pa_cons (pe_call (ok__law_after T) (hr.mono (by decide)) (by rfl) T.g__law_after T.f__law_after.kp (b__law_after T) .nil pass0 (pa_cons (pe_lstG pa_nil) (pa_cons (pv 4) pa_nil))) (pa_cons (pe_call (ok__law_bound T) (hr.mono (by decide)) (by rfl) T.g__law_bound T.f__law_bound.kp (b__law_bound T) .nil pass0 (pa_cons (pv 4) pa_nil)) pa_nil))) (nomark _)) (pw_or1 (pt_not (pt_val (pe_callB call_isi (by rfl) T.z_isinstance (by decide +kernel) (pa_cons (pe_ix ix_tup (pv 6) pe_int (fun _ _ => rfl)) (pa_cons (pe_bltn (v := .ty "bool") (by rfl) T.z_bool (by decide +kernel) rfl) pa_nil)))))))) (pss_one (ps_ret pe_bl)) pss_nil) (pss_cons (ps_if (PW.pt (pw_or (pt_cmpR (op_neD hr.units) (pe_callK0 (ok_form_of T) (hr.mono (by decide)) (by rfl) T.g_form_of T.f_form_of.kp (kb_form_of_0_clicks T) passL (pk_cons (pv 4) pk_nil)) (pv 6) (nomark _)) (pw_or (pt_not (pt_val (pe_call (ok__law_is_form_right T) (hr.mono (by decide)) (by rfl) T.g__law_is_form_right T.f__law_is_form_right.kp (b__law_is_form_right T) .nil pass0 (pa_cons (pv 6) pa_nil)))) (pw_or1 (pt_cmpR op_ne (pe_callB (cr_reprA gd hr.units) (by rfl) T.z_repr (by decide +kernel) (pa_cons (pv 4) pa_nil)) (pv 5) (nomark _)))))) (pss_one (ps_ret pe_bl)) pss_nil) (pss_cons (ps_setLc (i := 7) (own := [("_law_turn", 10)]) (g := gName 10) (by rfl) sc__law_right.nd rfl rfl (sw_true rfl rfl rfl (by decide +kernel)) (pi_range1 (by rfl) T.z_range (pa_cons pe_int pa_nil)) (blkOk_by (own := [("_law_turn", 10)]) (N := ["_law_deck", "_law_width", "_law_one", "_law_other_here", "_law_clicks_here", "_law_kept", "_law_form", "_law_every_here", "_law_keys_here", "_law_found", "_law_turn"]) (sc := (defScope s__law_right)) (by decide +kernel)) (fun _ _ _ _ _ => (pg_name (i := 10) sc__law_right.nd rfl (by first | exact Or.inl rfl | exact Or.inr rfl))) (fun _ _ _ _ _ => pts_nil) (fun _ _ _ _ _ => (pe_call (ok__law_keys T) (hr.mono (by decide)) (by rfl) T.g__law_keys T.f__law_keys.kp (b__law_keys T) .nil pass0 (pa_cons (pv 0) (pa_cons (pv 1) pa_nil))))) (pss_cons (ps_cut (ps_if (pt_cmpR op_lt (pv 1) pe_int (nomark _)) (pss_one (ps_set (i := 7) sc__law_right.nd rfl (by first | exact Or.inl rfl | exact Or.inr rfl) (pe_call (ok__law_every T) (hr.mono (by decide)) (by rfl) T.g__law_every T.f__law_every.kp (b__law_every T) .nil pass0 (pa_cons (pv 1) pa_nil)))) pss_nil)) (pss_one (ps_for PassesOwn.never rfl (pi_list (pv 7)) (pg_name (i := 8) sc__law_right.nd rfl (by first | exact Or.inl rfl | exact Or.inr rfl)) (pss_cons (ps_set (i := 9) sc__law_right.nd rfl (by first | exact Or.inl rfl | exact Or.inr rfl) (pe_call (ok_formed T) (hr.mono (by decide)) (by rfl) T.g_formed T.f_formed.kp (b_formed T) .nil passL (pa_cons (pv 6) (pa_cons (pv 8) pa_nil)))) (pss_cons (ps_if (PW.pt (pw_or (pt_cmpR (op_neD hr.units) (pv 9) (pe_call (ok__law_after T) (hr.mono (by decide)) (by rfl) T.g__law_after T.f__law_after.kp (b__law_after T) .nil pass0 (pa_cons (pv 8) (pa_cons (pv 4) pa_nil))) (nomark _)) (pw_or1 (pt_cmpR (op_neD hr.units) (pe_callK0 (ok_formed T) (hr.mono (by decide)) (by rfl) T.g_formed T.f_formed.kp (kb_formed_0_sorting_form T) passL (pk_cons (pv 8) (pk_cons (pv 6) pk_nil))) (pv 9) (nomark _))))) (pss_one (ps_ret pe_bl)) pss_nil) (pss_cons (ps_expr (pe_bm PySem.F.plainAttrs_list PySem.F.slot_list_append PySem.F.type_list_append mt_append (pv 9) (pa_cons pe_non pa_nil))) (pss_one (ps_if (PW.pt (pw_or (pt_cmpR (op_eqD hr.units) (pe_call (ok_formed T) (hr.mono (by decide)) (by rfl) T.g_formed T.f_formed.kp (b_formed T) .nil passL (pa_cons (pv 6) (pa_cons (pv 8) pa_nil))) (pv 9) (nomark _)) (pw_or1 (pt_cmpR (op_neD hr.units) (pv 6) (pe_call (ok_form_of T) (hr.mono (by decide)) (by rfl) T.g_form_of T.f_form_of.kp (b_form_of T) .nil passL (pa_cons (pv 4) pa_nil)) (nomark _))))) (pss_one (ps_ret pe_bl)) pss_nil)))))))))))))) (pss_cons (ps_if (PW.pt (pw_and (pt_cmpR op_lt (pv 1) pe_int (nomark _)) (pw_and1 (pt_not (pt_val (pe_callG (ok__law_alike_right T) (hr.mono (by decide)) gd (by rfl) T.g__law_alike_right T.f__law_alike_right.kp (b__law_alike_right T) .nil pass0 (pa_cons (pv 1) (pa_cons (pv 2) (pa_cons (pv 3) pa_nil))))))))) (pss_one (ps_ret pe_bl)) pss_nil) (pss_one (ps_ret (pe_and (pe_call (ok__law_far_right T) (hr.mono (by decide)) (by rfl) T.g__law_far_right T.f__law_far_right.kp (b__law_far_right T) .nil pass0 (pa_cons (pv 0) pa_nil)) (pe_one (pe_call (ok__law_many_right T) (hr.mono (by decide)) (by rfl) T.g__law_many_right T.f__law_many_right.kp (b__law_many_right T) .nil pass0 (pa_cons (pv 0) pa_nil))))))))))), ?_⟩
    refine ⟨_, rfl, (by show 4 ≤ sizeLine; decide), fun p1 H1 n1 e1 h1 => ?_⟩
    refine ⟨_, rfl, j, _, _, rfl, hj.ex e1, by omega, by omega, by omega, fun d2 H2 a2 b2 x2 j2 => ?_⟩
    have n1j := hj.ne n1
    obtain ⟨m, hm, at2⟩ : ∃ m : Int, (3 ≤ m ∧ m ≤ 5) ∧ atI [V.int 3, .int 3, .int 3, .int 5] d2 = some (.int m) := by
      rcases (show d2 = 0 ∨ d2 = 1 ∨ d2 = 2 ∨ d2 = 3 by omega) with z | z | z | z
      · exact ⟨3, by omega, by rw [z]; rfl⟩
      · exact ⟨3, by omega, by rw [z]; rfl⟩
      · exact ⟨3, by omega, by rw [z]; rfl⟩
      · exact ⟨5, by omega, by rw [z]; rfl⟩
    refine ⟨_, _, _, _, rfl, rfl, sqI (x2 _ _ n1j h1), at2, ?_⟩
    refine ⟨j, _, _, rfl, j2, by omega, by omega, by omega, fun d3 H3 a3 b3 x3 j3 => ?_⟩
    refine ⟨_, _, rfl, rfl, ?_⟩
    obtain ⟨W, hW⟩ : ∃ W : Nat, 1 + d3 = ((W : Nat) : Int) := ⟨(1 + d3).toNat, by omega⟩
    have W1 : 1 ≤ W := by omega
    have W5 : W ≤ 5 := by omega
    refine st_eq (σ' := [some (.ref j), none, none, none, none, none, none, none, none, none, none]) (P := fun σ => gName 1 (V.int (1 + d3)) σ H3 _) rfl ?_
    rw [hW]
    refine ⟨_, rfl, _, rfl, j, _, _, _, rfl, j3, by omega, by omega, by omega, by omega, by omega, fun A cs H4 nA nAj x4 j4 hA cl mc => ?_⟩
    have cl : cs.length ≤ 10 := by omega
    refine ⟨_, rfl, _, rfl, _, rfl, j, A, _, _, cs, rfl, j4, by omega, by omega, by omega, hA, nAj, by omega, mc, fun B ds H5 nB nBj x5 j5 hB dl md => ?_⟩
    have hA5 := x5 _ _ nAj hA
    refine ⟨_, rfl, _, rfl, (by show 2 ≤ sizeLine; decide), fun L H6 nL e6 hL => ?_⟩
    have nLj := j5.ne nL
    have j6 : Deck H6 j 1000 := (j5.ex e6).mono (by omega)
    have x06 : Exj j H H6 := (Exj.of e1).trans (x2.trans (x3.trans (x4.trans (x5.trans (Exj.of e6)))))
    have hA6 := e6 _ _ hA5
    have hB6 := e6 _ _ hB
    have pick : ∀ {i : Nat} {v : V}, [V.ref A, V.ref B][i]? = some v → ∃ C es, v = .ref C ∧ C ≠ j ∧ H6 C = some (.lst (es.map V.int)) ∧ es.length ≤ 30 ∧ Many W es := fun {i v} hv => by
      match i, hv with
      | 0, hv => cases hv; exact ⟨A, cs, rfl, nAj, hA6, by omega, mc⟩
      | 1, hv => cases hv; exact ⟨B, ds, rfl, nBj, hB6, dl, md⟩
    refine ⟨L, rfl, ⟨_, sqI hL⟩, for_it (walk_list (K := K) (a := L) (xs := [.ref A, .ref B])) (fun i σ H' => ∃ (v4 v5 v6 v7 v8 v9 v10 : Option V), σ = [some (.ref j), some (.int (W : Nat)), some (.ref A), some (.ref B), v4, v5, v6, v7, v8, v9, v10] ∧ Exj j H6 H' ∧ Deck H' j (1000 + 1000 * i)) ⟨_, _, _, _, _, _, _, rfl, Exj.refl _ _, j6.mono (by omega)⟩ (fun i σ H' _ ⟨_, _, _, _, _, _, _, _, e, _⟩ => sqI (e _ _ nLj hL)) ?_ ?_⟩
    · rintro i v σ HX Ha hi ⟨v4, v5, v6, v7, v8, v9, v10, rfl, xa, ja⟩ ⟨rfl, hv⟩
      obtain ⟨C, es, rfl, nCj, hC6, el, me⟩ := pick hv
      have hi : i < 2 := hi
      have hCa := xa _ _ nCj hC6
      have e0 := nn me
      have fl := form_len es
      have shC := shwOne (w := (W : Nat)) (by omega) el me
      have tC : ∀ {H' : Hp}, Ex Ha H' → SqL K H' C (es.map V.int) := fun e => sqI (e _ _ hCa)
      refine ⟨_, rfl, _, eL PyData.int es, rfl, dpL (tC (Evl.Ex.refl _)), shC, ?_⟩
      refine ⟨_, rfl, C, es, rfl, tC (Evl.Ex.refl _), by omega, e0, fun vf Hb eb fb => ?_⟩
      obtain ⟨pf, qf, rfl, hpf, hqf⟩ := id fb
      refine ⟨_, rfl, (by show 0 ≤ sizeLine; decide), fun p8 H8 n8 e8 h8 => ?_⟩
      refine ⟨_, rfl, p8, C, [], es, rfl, ⟨[], h8, AllR.nil⟩, tC (eb.trans e8), by show 0 + es.length ≤ 500; omega, fun q9 H9 e9 L9 => ?_⟩
      refine ⟨_, rfl, C, es, rfl, tC (eb.trans (e8.trans e9)), by omega, fun H10 e10 => ?_⟩
      refine ⟨(by show 2 ≤ sizeLine; decide), fun p11 H11 n11 e11 h11 => ?_⟩
      have eb11 := e8.trans (e9.trans (e10.trans e11))
      have dq : Dp K H11 (.ref p11) (eF (formL es)) := .tup (sqT h11) (.cons (L9.ex (e10.trans e11)).dp (.cons (.bl _) .nil))
      refine neE goodF (by decide) (fb.ex eb11).dp dq ⟨_, rfl, ifF same ?_⟩
      refine ⟨_, rfl, _, _, _, _, rfl, rfl, sqT (eb11 _ _ hpf), at1, _, _, _, _, true, rfl, .ty _, .base (.bl _), kit_ty (r := true) (by decide +kernel), _, rfl, ifF rfl ?_⟩
      refine st_eq (σ' := [some (.ref j), some (.int (W : Nat)), some (.ref A), some (.ref B), some (.ref C), some (.str (eL PyData.int es).shown), some (.ref pf), v7, v8, v9, v10]) (P := fun σ => tNext _ σ H11) rfl ?_
      refine ⟨_, rfl, C, es, rfl, tC (eb.trans eb11), by omega, e0, fun v12 H12 e12 f12 => ?_⟩
      refine ⟨_, rfl, neE goodF (by decide) f12.dp (fb.ex (eb11.trans e12)).dp ⟨_, rfl, ifF same ?_⟩⟩
      refine ⟨_, rfl, _, formL es, rfl, fb.ex (eb11.trans e12), by omega, hasForm_of e0, fun H13 e13 => ?_⟩
      refine ⟨_, rfl, ifF rfl ?_⟩
      have eb13 := eb11.trans (e12.trans e13)
      refine ⟨_, rfl, _, eL PyData.int es, rfl, dpL (tC (eb.trans eb13)), shC, _, rfl, rfl, _, rfl, ifF (nef rfl) ?_⟩
      have ea13 := eb.trans eb13
      have j13 := ja.ex ea13
      refine ⟨_, rfl, by omega, by omega, fun D nD => lc_range (lo := 0) (n := ((12 : Int)).toNat) (fun i2 H' => ∃ us kss, Exj j H13 H' ∧ Deck H' j (1000 + 1000 * i + 20 * i2) ∧ H' D = some (.lst us) ∧ AllR (LsX2 K j D H') us kss ∧ kss.length = i2 ∧ ∀ ks ∈ kss, KsOk W ks) ?_ ?_ ?_⟩
      · exact ⟨[], [], (Exj.refl _ _).new nD, (j13.upd (j13.ne nD)).mono (by omega), upd_same, AllR.nil, rfl, fun t ht => (by cases ht)⟩
      · rintro i2 H14 hi2 ⟨us, kss, x14, j14, d14, r14, l14, o14⟩
        have nDj := j13.ne nD
        refine ⟨rfl, ?_⟩
        show _
        refine ⟨_, rfl, _, rfl, j, W, _, rfl, j14, by omega, by omega, fun q ks H15 nq nqj x15 j15 hq ql qv qm => ?_⟩
        obtain ⟨yj, hyj⟩ := j14.at
        have nqD : q ≠ D := fun z => by rw [z, d14] at nq; cases nq
        have d15 := x15 _ _ nDj d14
        have up : Exj D H15 (upd H15 D (.lst (us ++ [.ref q]))) := (Exj.refl _ _).upd
        have ul := r14.1
        refine ⟨us, d15, Nat.lt_of_lt_of_le (show us.length < 200 by omega) (by decide), us ++ [.ref q], kss ++ [ks], ?_, (j15.mono (by omega)).upd nDj, upd_same, ?_, by simp [l14], fun t ht => ?_⟩
        · intro b o nb hb
          rw [upd_ne (ne_of_none hb nD)]
          exact x15 _ _ nb (x14 _ _ nb hb)
        · exact AllR.snoc (r14.mono fun v x r => (r.j x15 hyj).D up d15) ⟨q, rfl, nqj, nqD, hq.exj up nqD d15⟩
        · rcases List.mem_append.mp ht with z | z
          · exact o14 t z
          · rw [List.mem_singleton.mp z]
            exact ⟨qv, qm, by omega⟩
      rintro H14 ⟨us, kss, x14, j14, d14, r14, l14, o14⟩
      have f14 := (fb.ex eb13).exj j13 x14
      have hC14 := x14 _ _ nCj (ea13 _ _ hCa)
      have l14 : kss.length = 12 := l14
      have j14 : Deck H14 j (1000 + 1000 * i + 240) := j14.mono (by show (1000 + 1000 * (i : Int) + 20 * ((12 : Nat) : Int) : Int) ≤ _; omega)
      refine ⟨fun σ H' => ∃ (E : Addr) (us : List V) (kss : List (List Ky)), σ = [some (.ref j), some (.int (W : Nat)), some (.ref A), some (.ref B), some (.ref C), some (.str (eL PyData.int es).shown), some (.ref pf), some (.ref E), v8, v9, v10] ∧ Ex H14 H' ∧ H' E = some (.lst us) ∧ AllR (LsR K H') us kss ∧ ∀ ks ∈ kss, KsOk W ks, ?_, ?_⟩
      · refine ⟨_, rfl, _, _, rfl, rfl, _, rfl, ?_⟩
        refine ifB (fun c => ?_) (fun c => ?_)
        · have c : ((W : Nat) : Int) < 3 := of_decide_eq_true c
          refine ⟨_, rfl, W, rfl, W1, by omega, fun E H15 us' e15 hE aE => ?_⟩
          refine ⟨E, us', everyL W, rfl, e15, hE, aE, fun ks hk => ?_⟩
          have v := every_vk hk
          have := every_size hk
          exact ⟨v.1, v.2, by omega⟩
        · exact ⟨D, us, kss, rfl, Evl.Ex.refl _, d14, r14.mono fun v x ⟨p, a, _, _, b⟩ => ⟨p, a, b⟩, o14⟩
      · rintro σ' Hd ⟨E, us2, kss2, rfl, ed, hE, aE, oE⟩
        refine ⟨_, rfl, E, rfl, ⟨_, sqI hE⟩, for_it (walk_list (K := K) (a := E) (xs := us2)) (fun i3 σ H' => ∃ (w8 w9 w10 : Option V), σ = [some (.ref j), some (.int (W : Nat)), some (.ref A), some (.ref B), some (.ref C), some (.str (eL PyData.int es).shown), some (.ref pf), some (.ref E), w8, w9, w10] ∧ Ex Hd H') ⟨_, _, _, rfl, Evl.Ex.refl _⟩ (fun i3 σ H' _ ⟨_, _, _, _, e⟩ => sqI (e _ _ hE)) ?_ ?_⟩
        · rintro i3 v σ HY H15 hi3 ⟨w8, w9, w10, rfl, e15⟩ ⟨rfl, hv3⟩
          obtain ⟨ks, hks, r⟩ := aE.get hv3
          obtain ⟨q, rfl, hq⟩ := r.ex e15
          have ok := oE ks (List.mem_of_getElem? hks)
          have okl := ok.2.2
          have ka := keys_ok ok
          have f15 := f14.ex (ed.trans e15)
          have tC : ∀ {H' : Hp}, Ex H15 H' → SqL K H' C (es.map V.int) := fun e => sqI ((ed.trans (e15.trans e)) _ _ hC14)
          refine ⟨_, rfl, _, rfl, _, q, formL es, ks, rfl, f15, hq, by omega, by omega, hasForm_of e0, ka, form_ne, fun R H16 nR e16 hR => ?_⟩
          refine ⟨_, rfl, _, rfl, _, rfl, q, C, ks, es, rfl, hq.ex e16, tC e16, by omega, fun q17 H17 e17 L17 => ?_⟩
          have md := made_after es ok.1
          refine neE (goodL goodK) (by decide) (hR.ex e17).dp L17.dp ⟨_, rfl, ifF (by rw [md]; exact same) ?_⟩
          have e1517 := e16.trans e17
          refine ⟨_, rfl, _, rfl, _, q, formL es, ks, rfl, f15.ex e1517, hq.ex e1517, by omega, by omega, hasForm_of e0, ka, form_ne, fun R2 H18 nR2 e18 hR2 => ?_⟩
          refine ⟨_, rfl, neE (goodL goodK) (by decide) hR2.dp (hR.ex (e17.trans e18)).dp ⟨_, rfl, ifF same ?_⟩⟩
          obtain ⟨u16, hu16, hk16⟩ := id (hR.ex (e17.trans e18))
          have ul16 := hk16.1
          have ml : (madeOf (formL es) ks).length ≤ 500 := by
            rw [md]
            have := after_len es ks
            omega
          refine ⟨_, rfl, .inl ⟨rfl, _, sqI hu16⟩, _, _, _, rfl, rfl, hu16, Nat.lt_of_le_of_lt (show u16.length ≤ 500 by omega) (by decide), ?_⟩
          have eM : Ex H15 (upd H18 R (.lst (u16 ++ [.non]))) := Evl.Ex.mut (e1517.trans e18) nR
          have h19 : upd H18 R (.lst (u16 ++ [.non])) R = some (.lst (u16 ++ [.non])) := upd_same
          have hk19 : KsAt K (upd H18 R (.lst (u16 ++ [.non]))) u16 (madeOf (formL es) ks) := hk16.exj ((Exj.refl R H18).upd) hu16
          generalize upd H18 R (.lst (u16 ++ [V.non])) = H19 at eM h19 hk19 ⊢
          refine ⟨_, rfl, _, rfl, _, q, formL es, ks, rfl, f15.ex eM, hq.ex eM, by omega, by omega, hasForm_of e0, ka, form_ne, fun R3 H20 nR3 e20 hR3 => ?_⟩
          obtain ⟨u20, hu20, hk20⟩ := id hR3
          have d1 : Dp K H20 (.ref R3) (eL (optE eK) ((madeOf (formL es) ks).map some)) := .lst (sqI hu20) (KsAt.dpO hk20)
          have d2 : Dp K H20 (.ref R) (eL (optE eK) ((madeOf (formL es) ks).map some ++ [none])) := by
            unfold eL
            rw [List.map_append]
            exact .lst (sqI (e20 _ _ h19)) (dpAll_app (KsAt.dpO (hk19.ex e20)) (.cons .non .nil))
          refine ⟨_, rfl, eqE goodON (by decide) d1 d2 ⟨_, rfl, ifF (decide_eq_false (none_ne _)) ?_⟩⟩
          refine ⟨_, rfl, _, rfl, C, es, rfl, tC (eM.trans e20), by omega, e0, fun v21 H21 e21 f21 => ?_⟩
          refine neE goodF (by decide) (f15.ex (eM.trans (e20.trans e21))).dp f21.dp ⟨_, rfl, ifF same ?_⟩
          exact ⟨_, _, _, rfl, e15.trans (eM.trans (e20.trans e21))⟩
        · rintro σ H15 ⟨w8, w9, w10, rfl, e15⟩
          exact ⟨_, _, _, _, _, _, _, rfl, xa.trans ((Exj.of ea13).trans (x14.trans (Exj.of (ed.trans e15)))), (j14.ex (ed.trans e15)).mono (by omega)⟩
    · rintro σ Ha ⟨v4, v5, v6, v7, v8, v9, v10, rfl, xa, ja⟩
      have hAa := xa _ _ nAj hA6
      have hBa := xa _ _ nBj hB6
      have x0a := x06.trans xa
      have ja : Deck Ha j 3000 := ja.mono (by show (1000 + 1000 * ((2 : Nat) : Int) : Int) ≤ 3000; omega)
      refine ⟨_, rfl, _, _, rfl, rfl, _, rfl, ?_⟩
      refine ifB (fun c => ?_) (fun c => ?_)
      · have c : ((W : Nat) : Int) < 4 := of_decide_eq_true c
        refine ⟨_, rfl, _, rfl, _, rfl, W, A, B, cs, ds, rfl, W1, by omega, sqI hAa, sqI hBa, by omega, dl, mc, md, fun Hb eb => ?_⟩
        refine ⟨_, rfl, ifF rfl ?_⟩
        refine ⟨_, rfl, j, _, rfl, ja.ex eb, by omega, fun Hc xc jc => ?_⟩
        refine ⟨_, rfl, iteT ?_⟩
        refine ⟨_, rfl, j, _, rfl, jc, by omega, fun Hd xd jd => ?_⟩
        exact k Hd (x0a.trans ((Exj.of eb).trans (xc.trans xd)))
      · refine ⟨_, rfl, j, _, rfl, ja, by omega, fun Hc xc jc => ?_⟩
        refine ⟨_, rfl, iteT ?_⟩
        refine ⟨_, rfl, j, _, rfl, jc, by omega, fun Hd xd jd => ?_⟩
        exact k Hd (x0a.trans (xc.trans xd))
theorem ok_law (T : Txt K mg) : FnOkG PR w K mg base CX0 8 T.a_law T.d_law ["_law_script"] (sp_law K) := by
  refine T.f_law.okG sc_law (fun vs H Q E h => ?_) (fun cdv A outer s H vs Q E hr gd h => ?_)
  · obtain ⟨a, ns, rfl, _⟩ := h
    rfl
  · obtain ⟨sa, sc, rfl, hs, hsl, k⟩ := h
    refine ⟨_, (pss_cons (ps_for PassesOwn.never rfl (pi_range1 (by rfl) T.z_range (pa_cons (pe_callB (call_max2 rfl) (by rfl) T.z_max (by decide +kernel) (pa_cons pe_int (pa_cons (pe_callB (call_min2 rfl) (by rfl) T.z_min (by decide +kernel) (pa_cons pe_int (pa_cons (pe_callB call_len_seq (by rfl) T.z_len PySem.boot_len (pa_cons (pv 0) pa_nil)) pa_nil))) pa_nil))) pa_nil)) (pg_name (i := 1) sc_law.nd rfl (by first | exact Or.inl rfl | exact Or.inr rfl)) (pss_one (ps_if (pt_not (pt_val (pe_callG (ok__law_right T) (hr.mono (by decide)) gd (by rfl) T.g__law_right T.f__law_right.kp (b__law_right T) .nil pass0 (pa_cons (pe_call (ok__law_open T) (hr.mono (by decide)) (by rfl) T.g__law_open T.f__law_open.kp (b__law_open T) .nil pass0 (pa_cons (pv 0) (pa_cons (pv 1) pa_nil))) pa_nil)))) (pss_one (ps_ret pe_bl)) pss_nil))) (pss_one (ps_ret pe_bl))), ?_⟩
    have em : ∃ c : Nat, (if (if ((sc.map V.int).length : Int) < 5 then ((sc.map V.int).length : Int) else 5) > 1 then (if ((sc.map V.int).length : Int) < 5 then ((sc.map V.int).length : Int) else 5) else 1) = (c : Int) ∧ c ≤ 5 := by
      rw [List.length_map]
      refine ⟨max 1 (min 5 sc.length), ?_, by omega⟩
      split <;> split <;> omega
    obtain ⟨c, ec, c5⟩ := em
    refine ⟨_, rfl, _, _, rfl, .inl hs, _, _, rfl, _, _, rfl, ?_⟩
    rw [ec]
    refine ⟨_, rfl, (by omega), (by omega), for_range (lo := 0) (n := ((c : Int)).toNat) (fun i σ H' => ∃ v1, σ = [some (.ref sa), v1] ∧ SqL K H' sa (sc.map V.int)) ⟨_, rfl, hs⟩ ?_ ?_⟩
    · rintro i σ H0 hi ⟨v1, rfl, hs0⟩
      refine ⟨_, rfl, _, rfl, sa, sc, _, rfl, hs0, by omega, by omega, fun j H1 nj e1 j1 => ?_⟩
      refine ⟨j, rfl, j1, fun H2 x2 => ?_⟩
      refine ⟨_, rfl, ifF rfl ?_⟩
      have all : Ex H0 H2 := fun b o hb => x2 b o (fun z => by rw [z, nj] at hb; cases hb) (e1 b o hb)
      exact ⟨_, rfl, Evl.ex_l all hs0⟩
    · rintro σ H' ⟨v1, rfl, hs'⟩
      exact k H'
end
end K09
namespace K09
open PySem L2 My
theorem all_mk {K : PySem.W.Frag} {h : Heap} {mg : Str → Option Value} (X : K.In h) (G : h.Ns mainGlobals mg)
    {f0 : Addr} {od0 an0 : Option Addr} {sl0 : Array (Option Value)} {oc0 kV0 dc0 pm0 cd0 ct0 : Value}
    (a0 : PySem.W.nsIn K mainGlobals "are_keys" = some (some (.ref f0))) (l0 : K.lookup f0 = some ⟨oc0, od0, .func (PySem.W.fnOf "are_keys" "are_keys" (defArgs s_are_keys) (defBody s_are_keys) (defScope s_are_keys) .none kV0 dc0 pm0 an0 cd0 ct0), sl0⟩) (c0 : PySem.W.codeIn K cd0 "are_keys" = true) (k0 : PySem.W.keepIn K (.ref f0) = true)
    {f1 : Addr} {od1 an1 : Option Addr} {sl1 : Array (Option Value)} {oc1 kV1 dc1 pm1 cd1 ct1 : Value}
    (a1 : PySem.W.nsIn K mainGlobals "after_click" = some (some (.ref f1))) (l1 : K.lookup f1 = some ⟨oc1, od1, .func (PySem.W.fnOf "after_click" "after_click" (defArgs s_after_click) (defBody s_after_click) (defScope s_after_click) .none kV1 dc1 pm1 an1 cd1 ct1), sl1⟩) (c1 : PySem.W.codeIn K cd1 "after_click" = true) (k1 : PySem.W.keepIn K (.ref f1) = true)
    {f2 : Addr} {od2 an2 : Option Addr} {sl2 : Array (Option Value)} {oc2 kV2 dc2 pm2 cd2 ct2 : Value}
    (a2 : PySem.W.nsIn K mainGlobals "need_keys" = some (some (.ref f2))) (l2 : K.lookup f2 = some ⟨oc2, od2, .func (PySem.W.fnOf "need_keys" "need_keys" (defArgs s_need_keys) (defBody s_need_keys) (defScope s_need_keys) .none kV2 dc2 pm2 an2 cd2 ct2), sl2⟩) (c2 : PySem.W.codeIn K cd2 "need_keys" = true) (k2 : PySem.W.keepIn K (.ref f2) = true)
    {f3 : Addr} {od3 an3 : Option Addr} {sl3 : Array (Option Value)} {oc3 kV3 dc3 pm3 cd3 ct3 : Value}
    (a3 : PySem.W.nsIn K mainGlobals "after_clicks" = some (some (.ref f3))) (l3 : K.lookup f3 = some ⟨oc3, od3, .func (PySem.W.fnOf "after_clicks" "after_clicks" (defArgs s_after_clicks) (defBody s_after_clicks) (defScope s_after_clicks) .none kV3 dc3 pm3 an3 cd3 ct3), sl3⟩) (c3 : PySem.W.codeIn K cd3 "after_clicks" = true) (k3 : PySem.W.keepIn K (.ref f3) = true)
    {f4 : Addr} {od4 an4 : Option Addr} {sl4 : Array (Option Value)} {oc4 kV4 dc4 pm4 cd4 ct4 : Value}
    (a4 : PySem.W.nsIn K mainGlobals "has_form" = some (some (.ref f4))) (l4 : K.lookup f4 = some ⟨oc4, od4, .func (PySem.W.fnOf "has_form" "has_form" (defArgs s_has_form) (defBody s_has_form) (defScope s_has_form) .none kV4 dc4 pm4 an4 cd4 ct4), sl4⟩) (c4 : PySem.W.codeIn K cd4 "has_form" = true) (k4 : PySem.W.keepIn K (.ref f4) = true)
    {f5 : Addr} {od5 an5 : Option Addr} {sl5 : Array (Option Value)} {oc5 kV5 dc5 pm5 cd5 ct5 : Value}
    (a5 : PySem.W.nsIn K mainGlobals "need_form" = some (some (.ref f5))) (l5 : K.lookup f5 = some ⟨oc5, od5, .func (PySem.W.fnOf "need_form" "need_form" (defArgs s_need_form) (defBody s_need_form) (defScope s_need_form) .none kV5 dc5 pm5 an5 cd5 ct5), sl5⟩) (c5 : PySem.W.codeIn K cd5 "need_form" = true) (k5 : PySem.W.keepIn K (.ref f5) = true)
    {f6 : Addr} {od6 an6 : Option Addr} {sl6 : Array (Option Value)} {oc6 kV6 dc6 pm6 cd6 ct6 : Value}
    (a6 : PySem.W.nsIn K mainGlobals "columns_of" = some (some (.ref f6))) (l6 : K.lookup f6 = some ⟨oc6, od6, .func (PySem.W.fnOf "columns_of" "columns_of" (defArgs s_columns_of) (defBody s_columns_of) (defScope s_columns_of) .none kV6 dc6 pm6 an6 cd6 ct6), sl6⟩) (c6 : PySem.W.codeIn K cd6 "columns_of" = true) (k6 : PySem.W.keepIn K (.ref f6) = true)
    {f7 : Addr} {od7 an7 : Option Addr} {sl7 : Array (Option Value)} {oc7 kV7 dc7 pm7 cd7 ct7 : Value}
    (a7 : PySem.W.nsIn K mainGlobals "is_left_alone" = some (some (.ref f7))) (l7 : K.lookup f7 = some ⟨oc7, od7, .func (PySem.W.fnOf "is_left_alone" "is_left_alone" (defArgs s_is_left_alone) (defBody s_is_left_alone) (defScope s_is_left_alone) .none kV7 dc7 pm7 an7 cd7 ct7), sl7⟩) (c7 : PySem.W.codeIn K cd7 "is_left_alone" = true) (k7 : PySem.W.keepIn K (.ref f7) = true)
    {f8 : Addr} {od8 an8 : Option Addr} {sl8 : Array (Option Value)} {oc8 kV8 dc8 pm8 cd8 ct8 : Value}
    (a8 : PySem.W.nsIn K mainGlobals "made_form" = some (some (.ref f8))) (l8 : K.lookup f8 = some ⟨oc8, od8, .func (PySem.W.fnOf "made_form" "made_form" (defArgs s_made_form) (defBody s_made_form) (defScope s_made_form) .none kV8 dc8 pm8 an8 cd8 ct8), sl8⟩) (c8 : PySem.W.codeIn K cd8 "made_form" = true) (k8 : PySem.W.keepIn K (.ref f8) = true)
    {f9 : Addr} {od9 an9 : Option Addr} {sl9 : Array (Option Value)} {oc9 kV9 dc9 pm9 cd9 ct9 : Value}
    (a9 : PySem.W.nsIn K mainGlobals "form_of" = some (some (.ref f9))) (l9 : K.lookup f9 = some ⟨oc9, od9, .func (PySem.W.fnOf "form_of" "form_of" (defArgs s_form_of) (defBody s_form_of) (defScope s_form_of) .none kV9 dc9 pm9 an9 cd9 ct9), sl9⟩) (c9 : PySem.W.codeIn K cd9 "form_of" = true) (k9 : PySem.W.keepIn K (.ref f9) = true)
    {f10 : Addr} {od10 an10 : Option Addr} {sl10 : Array (Option Value)} {oc10 kV10 dc10 pm10 cd10 ct10 : Value}
    (a10 : PySem.W.nsIn K mainGlobals "is_form" = some (some (.ref f10))) (l10 : K.lookup f10 = some ⟨oc10, od10, .func (PySem.W.fnOf "is_form" "is_form" (defArgs s_is_form) (defBody s_is_form) (defScope s_is_form) .none kV10 dc10 pm10 an10 cd10 ct10), sl10⟩) (c10 : PySem.W.codeIn K cd10 "is_form" = true) (k10 : PySem.W.keepIn K (.ref f10) = true)
    {f11 : Addr} {od11 an11 : Option Addr} {sl11 : Array (Option Value)} {oc11 kV11 dc11 pm11 cd11 ct11 : Value}
    (a11 : PySem.W.nsIn K mainGlobals "made_of" = some (some (.ref f11))) (l11 : K.lookup f11 = some ⟨oc11, od11, .func (PySem.W.fnOf "made_of" "made_of" (defArgs s_made_of) (defBody s_made_of) (defScope s_made_of) .none kV11 dc11 pm11 an11 cd11 ct11), sl11⟩) (c11 : PySem.W.codeIn K cd11 "made_of" = true) (k11 : PySem.W.keepIn K (.ref f11) = true)
    {f12 : Addr} {od12 an12 : Option Addr} {sl12 : Array (Option Value)} {oc12 kV12 dc12 pm12 cd12 ct12 : Value}
    (a12 : PySem.W.nsIn K mainGlobals "formed" = some (some (.ref f12))) (l12 : K.lookup f12 = some ⟨oc12, od12, .func (PySem.W.fnOf "formed" "formed" (defArgs s_formed) (defBody s_formed) (defScope s_formed) .none kV12 dc12 pm12 an12 cd12 ct12), sl12⟩) (c12 : PySem.W.codeIn K cd12 "formed" = true) (k12 : PySem.W.keepIn K (.ref f12) = true)
    {f13 : Addr} {od13 an13 : Option Addr} {sl13 : Array (Option Value)} {oc13 kV13 dc13 pm13 cd13 ct13 : Value}
    (a13 : PySem.W.nsIn K mainGlobals "alike" = some (some (.ref f13))) (l13 : K.lookup f13 = some ⟨oc13, od13, .func (PySem.W.fnOf "alike" "alike" (defArgs s_alike) (defBody s_alike) (defScope s_alike) .none kV13 dc13 pm13 an13 cd13 ct13), sl13⟩) (c13 : PySem.W.codeIn K cd13 "alike" = true) (k13 : PySem.W.keepIn K (.ref f13) = true)
    {f14 : Addr} {od14 an14 : Option Addr} {sl14 : Array (Option Value)} {oc14 kV14 dc14 pm14 cd14 ct14 : Value}
    (a14 : PySem.W.nsIn K mainGlobals "first_apart" = some (some (.ref f14))) (l14 : K.lookup f14 = some ⟨oc14, od14, .func (PySem.W.fnOf "first_apart" "first_apart" (defArgs s_first_apart) (defBody s_first_apart) (defScope s_first_apart) .none kV14 dc14 pm14 an14 cd14 ct14), sl14⟩) (c14 : PySem.W.codeIn K cd14 "first_apart" = true) (k14 : PySem.W.keepIn K (.ref f14) = true)
    {f15 : Addr} {od15 an15 : Option Addr} {sl15 : Array (Option Value)} {oc15 kV15 dc15 pm15 cd15 ct15 : Value}
    (a15 : PySem.W.nsIn K mainGlobals "_law_open" = some (some (.ref f15))) (l15 : K.lookup f15 = some ⟨oc15, od15, .func (PySem.W.fnOf "_law_open" "_law_open" (defArgs s__law_open) (defBody s__law_open) (defScope s__law_open) .none kV15 dc15 pm15 an15 cd15 ct15), sl15⟩) (c15 : PySem.W.codeIn K cd15 "_law_open" = true) (k15 : PySem.W.keepIn K (.ref f15) = true)
    {f16 : Addr} {od16 an16 : Option Addr} {sl16 : Array (Option Value)} {oc16 kV16 dc16 pm16 cd16 ct16 : Value}
    (a16 : PySem.W.nsIn K mainGlobals "_law_draw" = some (some (.ref f16))) (l16 : K.lookup f16 = some ⟨oc16, od16, .func (PySem.W.fnOf "_law_draw" "_law_draw" (defArgs s__law_draw) (defBody s__law_draw) (defScope s__law_draw) .none kV16 dc16 pm16 an16 cd16 ct16), sl16⟩) (c16 : PySem.W.codeIn K cd16 "_law_draw" = true) (k16 : PySem.W.keepIn K (.ref f16) = true)
    {f17 : Addr} {od17 an17 : Option Addr} {sl17 : Array (Option Value)} {oc17 kV17 dc17 pm17 cd17 ct17 : Value}
    (a17 : PySem.W.nsIn K mainGlobals "_law_clicks" = some (some (.ref f17))) (l17 : K.lookup f17 = some ⟨oc17, od17, .func (PySem.W.fnOf "_law_clicks" "_law_clicks" (defArgs s__law_clicks) (defBody s__law_clicks) (defScope s__law_clicks) .none kV17 dc17 pm17 an17 cd17 ct17), sl17⟩) (c17 : PySem.W.codeIn K cd17 "_law_clicks" = true) (k17 : PySem.W.keepIn K (.ref f17) = true)
    {f18 : Addr} {od18 an18 : Option Addr} {sl18 : Array (Option Value)} {oc18 kV18 dc18 pm18 cd18 ct18 : Value}
    (a18 : PySem.W.nsIn K mainGlobals "_law_click" = some (some (.ref f18))) (l18 : K.lookup f18 = some ⟨oc18, od18, .func (PySem.W.fnOf "_law_click" "_law_click" (defArgs s__law_click) (defBody s__law_click) (defScope s__law_click) .none kV18 dc18 pm18 an18 cd18 ct18), sl18⟩) (c18 : PySem.W.codeIn K cd18 "_law_click" = true) (k18 : PySem.W.keepIn K (.ref f18) = true)
    {f19 : Addr} {od19 an19 : Option Addr} {sl19 : Array (Option Value)} {oc19 kV19 dc19 pm19 cd19 ct19 : Value}
    (a19 : PySem.W.nsIn K mainGlobals "_law_after" = some (some (.ref f19))) (l19 : K.lookup f19 = some ⟨oc19, od19, .func (PySem.W.fnOf "_law_after" "_law_after" (defArgs s__law_after) (defBody s__law_after) (defScope s__law_after) .none kV19 dc19 pm19 an19 cd19 ct19), sl19⟩) (c19 : PySem.W.codeIn K cd19 "_law_after" = true) (k19 : PySem.W.keepIn K (.ref f19) = true)
    {f20 : Addr} {od20 an20 : Option Addr} {sl20 : Array (Option Value)} {oc20 kV20 dc20 pm20 cd20 ct20 : Value}
    (a20 : PySem.W.nsIn K mainGlobals "_law_keys" = some (some (.ref f20))) (l20 : K.lookup f20 = some ⟨oc20, od20, .func (PySem.W.fnOf "_law_keys" "_law_keys" (defArgs s__law_keys) (defBody s__law_keys) (defScope s__law_keys) .none kV20 dc20 pm20 an20 cd20 ct20), sl20⟩) (c20 : PySem.W.codeIn K cd20 "_law_keys" = true) (k20 : PySem.W.keepIn K (.ref f20) = true)
    {f21 : Addr} {od21 an21 : Option Addr} {sl21 : Array (Option Value)} {oc21 kV21 dc21 pm21 cd21 ct21 : Value}
    (a21 : PySem.W.nsIn K mainGlobals "_law_every" = some (some (.ref f21))) (l21 : K.lookup f21 = some ⟨oc21, od21, .func (PySem.W.fnOf "_law_every" "_law_every" (defArgs s__law_every) (defBody s__law_every) (defScope s__law_every) .none kV21 dc21 pm21 an21 cd21 ct21), sl21⟩) (c21 : PySem.W.codeIn K cd21 "_law_every" = true) (k21 : PySem.W.keepIn K (.ref f21) = true)
    {f22 : Addr} {od22 an22 : Option Addr} {sl22 : Array (Option Value)} {oc22 kV22 dc22 pm22 cd22 ct22 : Value}
    (a22 : PySem.W.nsIn K mainGlobals "_law_says" = some (some (.ref f22))) (l22 : K.lookup f22 = some ⟨oc22, od22, .func (PySem.W.fnOf "_law_says" "_law_says" (defArgs s__law_says) (defBody s__law_says) (defScope s__law_says) .none kV22 dc22 pm22 an22 cd22 ct22), sl22⟩) (c22 : PySem.W.codeIn K cd22 "_law_says" = true) (k22 : PySem.W.keepIn K (.ref f22) = true)
    {f23 : Addr} {od23 an23 : Option Addr} {sl23 : Array (Option Value)} {oc23 kV23 dc23 pm23 cd23 ct23 : Value}
    (a23 : PySem.W.nsIn K mainGlobals "_law_bound" = some (some (.ref f23))) (l23 : K.lookup f23 = some ⟨oc23, od23, .func (PySem.W.fnOf "_law_bound" "_law_bound" (defArgs s__law_bound) (defBody s__law_bound) (defScope s__law_bound) .none kV23 dc23 pm23 an23 cd23 ct23), sl23⟩) (c23 : PySem.W.codeIn K cd23 "_law_bound" = true) (k23 : PySem.W.keepIn K (.ref f23) = true)
    {f24 : Addr} {od24 an24 : Option Addr} {sl24 : Array (Option Value)} {oc24 kV24 dc24 pm24 cd24 ct24 : Value}
    (a24 : PySem.W.nsIn K mainGlobals "_law_other" = some (some (.ref f24))) (l24 : K.lookup f24 = some ⟨oc24, od24, .func (PySem.W.fnOf "_law_other" "_law_other" (defArgs s__law_other) (defBody s__law_other) (defScope s__law_other) .none kV24 dc24 pm24 an24 cd24 ct24), sl24⟩) (c24 : PySem.W.codeIn K cd24 "_law_other" = true) (k24 : PySem.W.keepIn K (.ref f24) = true)
    {f25 : Addr} {od25 an25 : Option Addr} {sl25 : Array (Option Value)} {oc25 kV25 dc25 pm25 cd25 ct25 : Value}
    (a25 : PySem.W.nsIn K mainGlobals "_law_is_form_right" = some (some (.ref f25))) (l25 : K.lookup f25 = some ⟨oc25, od25, .func (PySem.W.fnOf "_law_is_form_right" "_law_is_form_right" (defArgs s__law_is_form_right) (defBody s__law_is_form_right) (defScope s__law_is_form_right) .none kV25 dc25 pm25 an25 cd25 ct25), sl25⟩) (c25 : PySem.W.codeIn K cd25 "_law_is_form_right" = true) (k25 : PySem.W.keepIn K (.ref f25) = true)
    {f26 : Addr} {od26 an26 : Option Addr} {sl26 : Array (Option Value)} {oc26 kV26 dc26 pm26 cd26 ct26 : Value}
    (a26 : PySem.W.nsIn K mainGlobals "_law_far_right" = some (some (.ref f26))) (l26 : K.lookup f26 = some ⟨oc26, od26, .func (PySem.W.fnOf "_law_far_right" "_law_far_right" (defArgs s__law_far_right) (defBody s__law_far_right) (defScope s__law_far_right) .none kV26 dc26 pm26 an26 cd26 ct26), sl26⟩) (c26 : PySem.W.codeIn K cd26 "_law_far_right" = true) (k26 : PySem.W.keepIn K (.ref f26) = true)
    {f27 : Addr} {od27 an27 : Option Addr} {sl27 : Array (Option Value)} {oc27 kV27 dc27 pm27 cd27 ct27 : Value}
    (a27 : PySem.W.nsIn K mainGlobals "_law_many_right" = some (some (.ref f27))) (l27 : K.lookup f27 = some ⟨oc27, od27, .func (PySem.W.fnOf "_law_many_right" "_law_many_right" (defArgs s__law_many_right) (defBody s__law_many_right) (defScope s__law_many_right) .none kV27 dc27 pm27 an27 cd27 ct27), sl27⟩) (c27 : PySem.W.codeIn K cd27 "_law_many_right" = true) (k27 : PySem.W.keepIn K (.ref f27) = true)
    {f28 : Addr} {od28 an28 : Option Addr} {sl28 : Array (Option Value)} {oc28 kV28 dc28 pm28 cd28 ct28 : Value}
    (a28 : PySem.W.nsIn K mainGlobals "_law_alike_right" = some (some (.ref f28))) (l28 : K.lookup f28 = some ⟨oc28, od28, .func (PySem.W.fnOf "_law_alike_right" "_law_alike_right" (defArgs s__law_alike_right) (defBody s__law_alike_right) (defScope s__law_alike_right) .none kV28 dc28 pm28 an28 cd28 ct28), sl28⟩) (c28 : PySem.W.codeIn K cd28 "_law_alike_right" = true) (k28 : PySem.W.keepIn K (.ref f28) = true)
    {f29 : Addr} {od29 an29 : Option Addr} {sl29 : Array (Option Value)} {oc29 kV29 dc29 pm29 cd29 ct29 : Value}
    (a29 : PySem.W.nsIn K mainGlobals "_law_right" = some (some (.ref f29))) (l29 : K.lookup f29 = some ⟨oc29, od29, .func (PySem.W.fnOf "_law_right" "_law_right" (defArgs s__law_right) (defBody s__law_right) (defScope s__law_right) .none kV29 dc29 pm29 an29 cd29 ct29), sl29⟩) (c29 : PySem.W.codeIn K cd29 "_law_right" = true) (k29 : PySem.W.keepIn K (.ref f29) = true)
    {f30 : Addr} {od30 an30 : Option Addr} {sl30 : Array (Option Value)} {oc30 kV30 dc30 pm30 cd30 ct30 : Value}
    (a30 : PySem.W.nsIn K mainGlobals "law" = some (some (.ref f30))) (l30 : K.lookup f30 = some ⟨oc30, od30, .func (PySem.W.fnOf "law" "law" (defArgs s_law) (defBody s_law) (defScope s_law) .none kV30 dc30 pm30 an30 cd30 ct30), sl30⟩) (c30 : PySem.W.codeIn K cd30 "law" = true) (k30 : PySem.W.keepIn K (.ref f30) = true)
    {cD : Addr} {fI cI cdI : Addr} {ocI clI cclI : Value} {odI cldI cddI anI : Option Addr} {kVI docI pmI ctI : Value} {oslI cslI ccsI : Array (Option Value)} {vsI : Array Value} {flI : Str} {tfI : Tok} {cdD : ClassData}
    (aW : PySem.W.nsIn K mainGlobals "WindowError" = some (some (.ref cD))) (iI : PySem.W.findIn K (.ref cD) "__init__" = some (some (.ref fI)))
    (lI : K.lookup fI = some ⟨ocI, odI, .func (PySem.W.fnX "__init__" "WindowError.__init__" (defArgs s_init) (defBody s_init) (defScope s_init) [("__class__", cI)] .none kVI docI pmI anI (.ref cdI) ctI), oslI⟩) (qI : PySem.W.codeIn K (.ref cdI) "WindowError.__init__" = true)
    (ceI : K.lookup cI = some ⟨clI, cldI, .cell (some (.ref cD)), cslI⟩) (fiI : K.lookup cdI = some ⟨cclI, cddI, .fields vsI, ccsI⟩) (viI : vsI[2]? = some (.str flI tfI)) (wiI : ((PR.main.file : Str) == flI) = true) (clD : PySem.W.clsIn K cD = some cdD) (suI : PySem.W.nsIn K mainGlobals "super" = some none)
    (opI : PySem.W.nsIn K cStatics "thirdparty.any" = some none) (tyI : PySem.W.typeIn K (.ref fI) = some (.type "function"))
    {e0 : Addr} {nme0 qe0 : Str} {Ne0 : Addr} {bse0 : List Value} {sne0 : List Str} {sube0 : List Value} {abe0 : Bool} {cole0 : Option Bool} {dde0 : Option Addr} {m0e0 m1e0 m2e0 m3e0 m5e0 : Option Value}
    (aCe0 : PySem.W.nsIn K mainGlobals "WindowError" = some (some (.ref e0))) (xLe0 : K.lookup e0 = some (excClassObj nme0 qe0 e0 Ne0 bse0 PySem.HandSPX.veTail true sne0 sube0 abe0 cole0 dde0 m0e0 m1e0 m2e0 m3e0 m5e0 "ValueError.__new__")) (rve0 : e0 = cD)
    (sae0 : PySem.W.findIn K (.ref e0) "__setattr__" = some (some (.builtin "object.__setattr__"))) (gae0 : PySem.W.findIn K (.ref e0) "__getattribute__" = some (some (.builtin "BaseException.__getattribute__"))) (gge0 : PySem.W.findIn K (.ref e0) "__getattr__" = some none) (nve0 : PySem.W.findIn K (.ref e0) "value" = some none) (ine0 : PySem.W.findIn K (.ref e0) "__init__" = some (some (.ref fI)))
    (kCe0 : PySem.W.keepIn K (.ref e0) = true) (eCe0 : PySem.W.subIn K (.ref e0) (.type "BaseException") = some true) (tCe0 : PySem.W.typeIn K (.ref e0) = some (.type "type")) (hCe0 : PySem.W.hasDictIn K e0 = true) (mre0 : PySem.W.mroIn K e0 (.ref cD) = some true) (ice0 : PySem.W.isClsIn K e0 = true) (sve0 : PySem.W.subIn K (.ref e0) (.type "ValueError") = some true)
    {e1 : Addr} {nme1 qe1 : Str} {Ne1 : Addr} {bse1 : List Value} {sne1 : List Str} {sube1 : List Value} {abe1 : Bool} {cole1 : Option Bool} {dde1 : Option Addr} {m0e1 m1e1 m2e1 m3e1 m5e1 : Option Value}
    (aCe1 : PySem.W.nsIn K mainGlobals "InvalidColumn" = some (some (.ref e1))) (xLe1 : K.lookup e1 = some (excClassObj nme1 qe1 e1 Ne1 bse1 (.ref cD :: PySem.HandSPX.veTail) true sne1 sube1 abe1 cole1 dde1 m0e1 m1e1 m2e1 m3e1 m5e1 "ValueError.__new__")) (rve1 : (e1 == cD) = false)
    (sae1 : PySem.W.findIn K (.ref e1) "__setattr__" = some (some (.builtin "object.__setattr__"))) (gae1 : PySem.W.findIn K (.ref e1) "__getattribute__" = some (some (.builtin "BaseException.__getattribute__"))) (gge1 : PySem.W.findIn K (.ref e1) "__getattr__" = some none) (nve1 : PySem.W.findIn K (.ref e1) "value" = some none) (ine1 : PySem.W.findIn K (.ref e1) "__init__" = some (some (.ref fI)))
    (kCe1 : PySem.W.keepIn K (.ref e1) = true) (eCe1 : PySem.W.subIn K (.ref e1) (.type "BaseException") = some true) (tCe1 : PySem.W.typeIn K (.ref e1) = some (.type "type")) (hCe1 : PySem.W.hasDictIn K e1 = true) (mre1 : PySem.W.mroIn K e1 (.ref cD) = some true) (ice1 : PySem.W.isClsIn K e1 = true) (sve1 : PySem.W.subIn K (.ref e1) (.type "ValueError") = some true)
    {e2 : Addr} {nme2 qe2 : Str} {Ne2 : Addr} {bse2 : List Value} {sne2 : List Str} {sube2 : List Value} {abe2 : Bool} {cole2 : Option Bool} {dde2 : Option Addr} {m0e2 m1e2 m2e2 m3e2 m5e2 : Option Value}
    (aCe2 : PySem.W.nsIn K mainGlobals "InvalidSorting" = some (some (.ref e2))) (xLe2 : K.lookup e2 = some (excClassObj nme2 qe2 e2 Ne2 bse2 (.ref cD :: PySem.HandSPX.veTail) true sne2 sube2 abe2 cole2 dde2 m0e2 m1e2 m2e2 m3e2 m5e2 "ValueError.__new__")) (rve2 : (e2 == cD) = false)
    (sae2 : PySem.W.findIn K (.ref e2) "__setattr__" = some (some (.builtin "object.__setattr__"))) (gae2 : PySem.W.findIn K (.ref e2) "__getattribute__" = some (some (.builtin "BaseException.__getattribute__"))) (gge2 : PySem.W.findIn K (.ref e2) "__getattr__" = some none) (nve2 : PySem.W.findIn K (.ref e2) "value" = some none) (ine2 : PySem.W.findIn K (.ref e2) "__init__" = some (some (.ref fI)))
    (kCe2 : PySem.W.keepIn K (.ref e2) = true) (eCe2 : PySem.W.subIn K (.ref e2) (.type "BaseException") = some true) (tCe2 : PySem.W.typeIn K (.ref e2) = some (.type "type")) (hCe2 : PySem.W.hasDictIn K e2 = true) (mre2 : PySem.W.mroIn K e2 (.ref cD) = some true) (ice2 : PySem.W.isClsIn K e2 = true) (sve2 : PySem.W.subIn K (.ref e2) (.type "ValueError") = some true)
    (z_all : PySem.W.nsIn K mainGlobals "all" = some none)
    (z_len : PySem.W.nsIn K mainGlobals "len" = some none)
    (z_set : PySem.W.nsIn K mainGlobals "set" = some none)
    (z_list : PySem.W.nsIn K mainGlobals "list" = some none)
    (z_max : PySem.W.nsIn K mainGlobals "max" = some none)
    (z_int : PySem.W.nsIn K mainGlobals "int" = some none)
    (z_abs : PySem.W.nsIn K mainGlobals "abs" = some none)
    (z_range : PySem.W.nsIn K mainGlobals "range" = some none)
    (z_isinstance : PySem.W.nsIn K mainGlobals "isinstance" = some none)
    (z_bool : PySem.W.nsIn K mainGlobals "bool" = some none)
    (z_repr : PySem.W.nsIn K mainGlobals "repr" = some none)
    (z_min : PySem.W.nsIn K mainGlobals "min" = some none)
    : ∃ T : Txt K mg, T.d_law = PySem.W.fnOf "law" "law" (defArgs s_law) (defBody s_law) (defScope s_law) .none kV30 dc30 pm30 an30 cd30 ct30 ∧ T.a_law = f30 :=
  ⟨⟨f0, _, fun_mk (st := s_are_keys) l0 c0 k0, PySem.W.mg_of X G a0, f1, _, fun_mk (st := s_after_click) l1 c1 k1, PySem.W.mg_of X G a1, f2, _, fun_mk (st := s_need_keys) l2 c2 k2, PySem.W.mg_of X G a2, f3, _, fun_mk (st := s_after_clicks) l3 c3 k3, PySem.W.mg_of X G a3, f4, _, fun_mk (st := s_has_form) l4 c4 k4, PySem.W.mg_of X G a4, f5, _, fun_mk (st := s_need_form) l5 c5 k5, PySem.W.mg_of X G a5, f6, _, fun_mk (st := s_columns_of) l6 c6 k6, PySem.W.mg_of X G a6, f7, _, fun_mk (st := s_is_left_alone) l7 c7 k7, PySem.W.mg_of X G a7, f8, _, fun_mk (st := s_made_form) l8 c8 k8, PySem.W.mg_of X G a8, f9, _, fun_mk (st := s_form_of) l9 c9 k9, PySem.W.mg_of X G a9, f10, _, fun_mk (st := s_is_form) l10 c10 k10, PySem.W.mg_of X G a10, f11, _, fun_mk (st := s_made_of) l11 c11 k11, PySem.W.mg_of X G a11, f12, _, fun_mk (st := s_formed) l12 c12 k12, PySem.W.mg_of X G a12, f13, _, fun_mk (st := s_alike) l13 c13 k13, PySem.W.mg_of X G a13, f14, _, fun_mk (st := s_first_apart) l14 c14 k14, PySem.W.mg_of X G a14, f15, _, fun_mk (st := s__law_open) l15 c15 k15, PySem.W.mg_of X G a15, f16, _, fun_mk (st := s__law_draw) l16 c16 k16, PySem.W.mg_of X G a16, f17, _, fun_mk (st := s__law_clicks) l17 c17 k17, PySem.W.mg_of X G a17, f18, _, fun_mk (st := s__law_click) l18 c18 k18, PySem.W.mg_of X G a18, f19, _, fun_mk (st := s__law_after) l19 c19 k19, PySem.W.mg_of X G a19, f20, _, fun_mk (st := s__law_keys) l20 c20 k20, PySem.W.mg_of X G a20, f21, _, fun_mk (st := s__law_every) l21 c21 k21, PySem.W.mg_of X G a21, f22, _, fun_mk (st := s__law_says) l22 c22 k22, PySem.W.mg_of X G a22, f23, _, fun_mk (st := s__law_bound) l23 c23 k23, PySem.W.mg_of X G a23, f24, _, fun_mk (st := s__law_other) l24 c24 k24, PySem.W.mg_of X G a24, f25, _, fun_mk (st := s__law_is_form_right) l25 c25 k25, PySem.W.mg_of X G a25, f26, _, fun_mk (st := s__law_far_right) l26 c26 k26, PySem.W.mg_of X G a26, f27, _, fun_mk (st := s__law_many_right) l27 c27 k27, PySem.W.mg_of X G a27, f28, _, fun_mk (st := s__law_alike_right) l28 c28 k28, PySem.W.mg_of X G a28, f29, _, fun_mk (st := s__law_right) l29 c29 k29, PySem.W.mg_of X G a29, f30, _, fun_mk (st := s_law) l30 c30 k30, PySem.W.mg_of X G a30, fI, cI, cdI, cD, _, ⟨⟨_, _, _, _, _, _, _, _, rfl, lI⟩, qI, ⟨_, _, _, ceI⟩, ⟨_, _, _, _, _, _, fiI, viI, wiI⟩, ⟨_, clD⟩, PySem.W.mg_none_of X G suI, by rfl, opI⟩, e0, ⟨⟨⟨_, _, _, _, _, _, _, _, _, _, _, _, _, _, _, xLe0, rfl⟩, sae0, eCe0, tCe0, kCe0⟩, ine0, tyI, nve0, mre0, sup_self xLe0 rve0, sve0, ⟨gae0, gge0, eCe0, hCe0⟩⟩, PySem.W.mg_of X G aCe0, e1, ⟨⟨⟨_, _, _, _, _, _, _, _, _, _, _, _, _, _, _, xLe1, rfl⟩, sae1, eCe1, tCe1, kCe1⟩, ine1, tyI, nve1, mre1, sup_child xLe1 rve1, sve1, ⟨gae1, gge1, eCe1, hCe1⟩⟩, PySem.W.mg_of X G aCe1, e2, ⟨⟨⟨_, _, _, _, _, _, _, _, _, _, _, _, _, _, _, xLe2, rfl⟩, sae2, eCe2, tCe2, kCe2⟩, ine2, tyI, nve2, mre2, sup_child xLe2 rve2, sve2, ⟨gae2, gge2, eCe2, hCe2⟩⟩, PySem.W.mg_of X G aCe2, PySem.W.mg_none_of X G z_all, PySem.W.mg_none_of X G z_len, PySem.W.mg_none_of X G z_set, PySem.W.mg_none_of X G z_list, PySem.W.mg_none_of X G z_max, PySem.W.mg_none_of X G z_int, PySem.W.mg_none_of X G z_abs, PySem.W.mg_none_of X G z_range, PySem.W.mg_none_of X G z_isinstance, PySem.W.mg_none_of X G z_bool, PySem.W.mg_none_of X G z_repr, PySem.W.mg_none_of X G z_min⟩, rfl, rfl⟩
theorem walk {l : PySem.W.OpenLaw} {q : Program} {loose : List Str} {XP : (Str → Option Value) → Heap → Prop} {YP : World → Heap → Prop} {d : DefRec} {K : Params → PySem.W.Frag} (hn : l.most = some 63) (hdf : d.params.defaults = [])
    (hY : ∀ (w : World) (h : Heap), YP w h → (K w.params).In h)
    (F : ∀ (w : World) (mg : Str → Option Value) (fa : Addr) (h : Heap), (K w.params).In h → h.Ns mainGlobals mg → mg d.name = some (.ref fa) →
      ∃ fd : FuncData, (∀ (s : Shared) (u : Value), BindsTo s fd ⟨[u], []⟩ [("_law_script", u)]) ∧ ∀ base : Heap, (K w.params).In base → base.Ns mainGlobals mg → FnOkG l.prog w (K w.params) mg base CX0 8 fa fd ["_law_script"] (sp_law (K w.params))) :
    PySem.W.WalkO q loose XP YP l.row.toRowW d [] (fun f vs => PySem.call f vs) :=
  My.walk_ofG (n := 63) (k := 8) (x := "_law_script") (CX := fun _ => CX0) (sp := fun w => sp_law (K w.params)) hn (by decide) hdf ⟨rfl, by decide, by decide⟩ hY F (fun _ _ a ns hl _ hS => ⟨a, ns, rfl, hS, hl, fun _ => rfl⟩) fun _ _ _ _ _ z => z
end K09
open PySem PySem.W PyProof.Rows
set_option maxRecDepth 100000 in
set_option maxHeartbeats 0 in
theorem PySem.Challenge.cw_listwindow_k09_forms_of_clicks_done_holds : PySem.Challenge.rw_listwindow_k09_forms_of_clicks_done.Holds := by
  w_on; o_law; k_head; (case hw => w_witness2)
  k_fill
  refine K09.walk (l := PySem.Challenge.rw_listwindow_k09_forms_of_clicks_done) rfl rfl (fun w h Y => PySem.W.kIn_of Y) ?F
  case F =>
    intro w mg fa h KX G hmg
    have T : ∃ T : K09.Txt _ mg, _ ∧ _ := K09.all_mk KX G (by k_is) (by k_is) (by k_is) (by k_is) (by k_is) (by k_is) (by k_is) (by k_is) (by k_is) (by k_is) (by k_is) (by k_is) (by k_is) (by k_is) (by k_is) (by k_is) (by k_is) (by k_is) (by k_is) (by k_is) (by k_is) (by k_is) (by k_is) (by k_is) (by k_is) (by k_is) (by k_is) (by k_is) (by k_is) (by k_is) (by k_is) (by k_is) (by k_is) (by k_is) (by k_is) (by k_is) (by k_is) (by k_is) (by k_is) (by k_is) (by k_is) (by k_is) (by k_is) (by k_is) (by k_is) (by k_is) (by k_is) (by k_is) (by k_is) (by k_is) (by k_is) (by k_is) (by k_is) (by k_is) (by k_is) (by k_is) (by k_is) (by k_is) (by k_is) (by k_is) (by k_is) (by k_is) (by k_is) (by k_is) (by k_is) (by k_is) (by k_is) (by k_is) (by k_is) (by k_is) (by k_is) (by k_is) (by k_is) (by k_is) (by k_is) (by k_is) (by k_is) (by k_is) (by k_is) (by k_is) (by k_is) (by k_is) (by k_is) (by k_is) (by k_is) (by k_is) (by k_is) (by k_is) (by k_is) (by k_is) (by k_is) (by k_is) (by k_is) (by k_is) (by k_is) (by k_is) (by k_is) (by k_is) (by k_is) (by k_is) (by k_is) (by k_is) (by k_is) (by k_is) (by k_is) (by k_is) (by k_is) (by k_is) (by k_is) (by k_is) (by k_is) (by k_is) (by k_is) (by k_is) (by k_is) (by k_is) (by k_is) (by k_is) (by k_is) (by k_is) (by k_is) (by k_is) (by k_is) (by k_is) (by k_is) (by k_is) (by k_is) (by k_is) (by k_is) (by k_is) (by rfl) (by decide +kernel) (by k_is) (by k_is) (by k_is) (by k_is) (by k_is) (by k_is) (by rfl) (by k_is) (by k_is) (by k_is) (by k_is) (by k_is) (by k_is) (by k_is) (by k_is) (by k_is) (by k_is) (by k_is) (by k_is) (by k_is) (by k_is) (by rfl) (by k_is) (by k_is) (by k_is) (by k_is) (by k_is) (by k_is) (by k_is) (by k_is) (by k_is) (by k_is) (by k_is) (by k_is) (by k_is) (by k_is) (by rfl) (by k_is) (by k_is) (by k_is) (by k_is) (by k_is) (by k_is) (by k_is) (by k_is) (by k_is) (by k_is) (by k_is) (by k_is) (by k_is) (by k_is) (by k_is) (by k_is) (by k_is) (by k_is) (by k_is) (by k_is) (by k_is) (by k_is) (by k_is) (by k_is)
    obtain ⟨T, e1, e2⟩ := T
    have e3 := hmg.symm.trans T.g_law
    cases e3
    exact ⟨T.d_law, fun s v => by rw [e1]; exact .of_eq rfl, fun base _ _ => K09.ok_law T⟩
#print axioms PySem.Challenge.cw_listwindow_k09_forms_of_clicks_done_holds

