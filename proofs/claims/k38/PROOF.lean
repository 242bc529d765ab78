import PyProof.Rows.All
import Wide.All
import OpenK.AllK
import Wide.FinOn
import HandS.ForMost
import HandS.Wide
import HandS.Style
import HandS.SortInts
import HandS.IsInst
import HandS.Evl
import HandS.Walk
import HandS.ForExc
import HandS.ExcInit
import HandS.ExcField
import HandS.ExcSuper
import HandS.Nested
import KE.KExcSuper
import HandS.Zip
import HandS.Sort
import PyProof.ZipIter
import HandS.TryMany
import PyProof.ReprRoads
import HandS.DictTup
import HandS.Set
import HandS.Dict
import HandS.DictComp
import HandS.NoneIn
import HandS.Conv
import HandS.OwnEq
import HandS.Property
import KE.SortKeyed
import HandS.SortOrd
import HandS.SetFor
import HandS.Strs
import HandS.Star
import KE.SortData
import KE.GoesEnum
import PySem.Challenge.RW_listwindow_k38_rooms_that_part_turns
set_option Elab.async false
set_option linter.all false
set_option maxRecDepth 100000
set_option maxHeartbeats 4000000
/-! My own rules over the hand layer: calls by keywords alone, powers of great ints, what a heap keeps. -/
namespace My
open PySem PySem.Spec PyProof.Rows L2
/-! ### calls by keywords -/
def kg (n m : Nat) (π : List Nat) {α : Type} (us ws : List α) : List α := if us.length = n ∧ ws.length = m then π.filterMap (fun i => (us ++ ws)[i]?) else []
theorem vals_pick {xs : List V} {us : List Value} (r : Vals xs us) : ∀ (π : List Nat), Vals (π.filterMap (fun i => xs[i]?)) (π.filterMap (fun i => us[i]?))
  | [] => .nil
  | i :: π => by
    have ih := vals_pick r π
    cases e : xs[i]? with
    | none =>
      rw [List.filterMap_cons, e, List.filterMap_cons, r.none_of e]
      exact ih
    | some x =>
      obtain ⟨u, h1, h2⟩ := r.get e
      rw [List.filterMap_cons, e, List.filterMap_cons, h1]
      exact .cons h2 ih
theorem kg_rel {n m : Nat} {π : List Nat} {vs zs : List V} {us ws : List Value} (r : Vals vs us) (rz : Vals zs ws) : Vals (kg n m π vs zs) (kg n m π us ws) := by
  unfold kg
  rw [r.length, rz.length]
  split
  · exact vals_pick (r.append rz) π
  · exact .nil
theorem kbinds {K : PySem.W.Frag} {x qual : Str} {st : Stmt} {f : Addr} {fd : FuncData} {ps ks : List Str} (n m : Nat) (π : List Nat) (F : Fun K x qual st f fd) (hp : 0 < ps.length)
    (h : ∀ (kV doc pm : Value) (an : Option Addr) (cdv ct : Value) (us ws : List Value), us.length = n → ws.length = m → bindArgs (PySem.W.fnOf x qual (defArgs st) (defBody st) (defScope st) .none kV doc pm an cdv ct) ⟨us, ks.zip ws⟩ = pure (ps.zip (kg n m π us ws))) : KBinds K fd ps ks (kg n m π) (kg n m π) := by
  obtain ⟨oc, od, kV, doc, pm, an, cdv, ct, osl, rfl, lk, hcd⟩ := F.ex
  refine ⟨fun s us ws _ hl => ?_, fun r rz => kg_rel r rz⟩
  by_cases z : us.length = n ∧ ws.length = m
  · exact .of_eq (h kV doc pm an cdv ct us ws z.1 z.2)
  · unfold kg at hl
    rw [if_neg z] at hl
    rw [← hl] at hp
    exact absurd hp (Nat.lt_irrefl _)
section
variable {X : Cx} {CX : CXT} {k : Nat} {f C : Addr} {fd : FuncData} {ps ks : List Str} {sp : Sp} {E : XK} {x m : Str} {p pos apos kpos : Pos} {kws : List Keyword} {tk : TA} {g : List Value → List Value → List Value} {gV : List V → List V → List V}
/-- f(k = v, ..) -/
theorem pe_callK0 (F : FnOk X.prog X.w X.K X.mg X.base CX k f fd ps sp) (hr : Room k X.A) (hg : Gl X x) (hm : X.mg x = some (.ref f)) (hk : PySem.W.keepIn X.K (.ref f) = true) (hb : KBinds X.K fd ps ks g gV) (hx : Passes CX X E)
    (hkw : PK X kws tk) (hall : (backToKw pos (keywordEach kws X.env)).all (·.1.isSome) = true := by rfl) (hks : (backToKw pos (keywordEach kws X.env)).filterMap (·.1) = ks := by rfl)
    (hdb : (x == ("__debug__" : Str)) = false := by decide)
    (hpl : ((backTo pos (starEach [] X.env)).any (·.1) || (backToKw pos (keywordEach kws X.env)).any (·.1.isNone)) = false := by rfl) :
    PE X (.Call (.Name x p) [] kws pos) (tCallK sp gV E tNil tk) := by
  refine ⟨fun pins s σ H Q I h => ?_⟩
  refine wpAny_Call_Name_kw (ld_glob I hg hm ?_ hdb)
  refine PySem.W.callWith_KW0 (h₀ := X.base) I.ok.mod.kin hk hall ?_ hpl
  refine thn (hkw.run pos pins s σ H _ I h) fun ws s2 ⟨zs, H2, I2, rz, q2⟩ => ⟨I2.kIn, ?_⟩
  rw [hks]
  exact run_fnk (us := []) (vs := []) F hr hb hx I2 .nil rz q2
end
/-! ### powers of great ints -/
/-- a power of together at most 2 ^ 27 bits -/
def CPowW (i j : Int) : Prop := 0 ≤ j ∧ ((i.natAbs.log2 : Int) + 1) * j ≤ 2 ^ 27
theorem bits_le (x : Int) : (Builtin.Int.intBits x : Int) ≤ (x.natAbs.log2 : Int) + 1 := by
  unfold Builtin.Int.intBits
  split <;> omega
theorem op_powW {X : Cx} : OpR X (binaryOp .Pow) (rI CPowW fun i j => .int (i ^ j.toNat)) := opI fun i j _ _ _ _ _ hc q =>
  pow_int hc.1 (Int.le_trans (Int.mul_le_mul_of_nonneg_right (bits_le i) hc.1) hc.2) q
theorem powW_of {i : Int} {j : Nat} {a : Nat} (h : i.natAbs < 2 ^ a) (h0 : 0 < a) (hj : a * j ≤ 2 ^ 27) : CPowW i (j : Int) := by
  have := PySem.Flt.log2_lt_of h0 h
  refine ⟨Int.natCast_nonneg _, ?_⟩
  have e : ((i.natAbs.log2 : Int) + 1) * (j : Int) = (((i.natAbs.log2 + 1) * j : Nat) : Int) := by
    rw [Int.natCast_mul]
    rfl
  rw [e]
  have : (i.natAbs.log2 + 1) * j ≤ a * j := Nat.mul_le_mul_right _ this
  have : (i.natAbs.log2 + 1) * j ≤ 2 ^ 27 := Nat.le_trans this hj
  omega
/-! ### heaps -/
abbrev Ex := Evl.Ex
/-- all but the object at j is as it was -/
def Exj (j : Addr) (H H' : Hp) : Prop := ∀ b o, b ≠ j → H b = some o → H' b = some o
theorem Exj.refl (j : Addr) (H : Hp) : Exj j H H := fun _ _ _ h => h
theorem Exj.trans {j : Addr} {H H1 H2 : Hp} (a : Exj j H H1) (b : Exj j H1 H2) : Exj j H H2 := fun x o n h => b x o n (a x o n h)
theorem Exj.of {j : Addr} {H H' : Hp} (a : Ex H H') : Exj j H H' := fun x o _ h => a x o h
theorem Exj.upd {j : Addr} {H H' : Hp} {o : HO} (a : Exj j H H') : Exj j H (upd H' j o) := fun x u n h => by
  rw [upd_ne n]
  exact a x u n h
theorem Exj.new {j p : Addr} {H H' : Hp} {o : HO} (a : Exj j H H') (h : H' p = none) : Exj j H (L2.upd H' p o) := fun x u n e => by
  have := a x u n e
  rw [upd_ne (ne_of_none this h)]
  exact this
theorem Exj.sq {K : PySem.W.Frag} {j : Addr} {H H' : Hp} {a : Addr} {xs : List V} (e : Exj j H H') (n : a ≠ j) (h : SqL K H a xs) : SqL K H' a xs := by
  rcases h with (h | ⟨o, h⟩) | h
  · exact .inl (.inl (e _ _ n h))
  · exact .inl (.inr ⟨o, e _ _ n h⟩)
  · exact .inr h
/-- a new object, its heap by name -/
theorem newO {H : Hp} {o : HO} {P : V → Hp → Prop} (k : ∀ p H', H p = none → Ex H H' → H' p = some o → P (.ref p) H') : ∀ p, H p = none → P (.ref p) (L2.upd H p o) := fun p hp => k p _ hp (Evl.Ex.new hp) upd_same
theorem sqI {K : PySem.W.Frag} {H : Hp} {a : Addr} {xs : List V} (h : H a = some (.lst xs)) : SqL K H a xs := .inl (.inl h)
theorem sqT {K : PySem.W.Frag} {H : Hp} {a : Addr} {xs : List V} (h : H a = some (.tup xs)) : SqT K H a xs := .inl (.inl h)
/-! ### data: how a thing of Lean stands in the heap -/
/-- a way of writing things as data: it can be laid, it is no deeper than n, equal data are equal things -/
structure Good {α : Type} [DecidableEq α] (e : α → PyData) (n : Nat) : Prop where
  lay : ∀ x, (e x).canLay0 = true
  dep : ∀ x, (e x).depth ≤ n
  eqv : ∀ x y, PyData.eqv (e x) (e y) = decide (x = y)
def eL {α : Type} (e : α → PyData) (xs : List α) : PyData := .list (xs.map e)
def eT {α : Type} (e : α → PyData) (xs : List α) : PyData := .tuple (xs.map e)
def eP {α β : Type} (e : α → PyData) (f : β → PyData) (p : α × β) : PyData := .tuple [e p.1, f p.2]
theorem goodI : Good PyData.int 0 := ⟨fun _ => rfl, fun _ => Nat.le_refl _, fun x y => by
  show (x == y) = _
  rw [Bool.eq_iff_iff]
  simp⟩
theorem goodB : Good PyData.bool 0 := ⟨fun _ => rfl, fun _ => Nat.le_refl _, fun x y => by
  show (x == y) = _
  rw [Bool.eq_iff_iff]
  simp⟩
section
variable {α β : Type} [DecidableEq α] [DecidableEq β] {e : α → PyData} {f : β → PyData} {n m : Nat}
theorem Good.layAll (g : Good e n) : ∀ xs : List α, PyData.canLayAll0 (xs.map e) = true
  | [] => rfl
  | x :: xs => by
    show (PyData.canLay0 (e x) && PyData.canLayAll0 (xs.map e)) = true
    rw [g.layAll xs, g.lay x]
    rfl
theorem Good.depAll (g : Good e n) : ∀ xs : List α, PyData.depthAll (xs.map e) ≤ n
  | [] => Nat.zero_le _
  | x :: xs => by
    show max (PyData.depth (e x)) (PyData.depthAll (xs.map e)) ≤ n
    exact Nat.max_le.mpr ⟨g.dep x, g.depAll xs⟩
theorem Good.eqvAll (g : Good e n) : ∀ xs ys : List α, PyData.eqvAll (xs.map e) (ys.map e) = decide (xs = ys)
  | [], [] => rfl
  | [], _ :: _ => rfl
  | _ :: _, [] => rfl
  | x :: xs, y :: ys => by
    show (PyData.eqv (e x) (e y) && PyData.eqvAll (xs.map e) (ys.map e)) = _
    rw [g.eqvAll xs ys, g.eqv, Bool.eq_iff_iff]
    simp
theorem goodL (g : Good e n) : Good (eL e) (n + 1) := ⟨fun xs => g.layAll xs, fun xs => by
  show PyData.depthAll (xs.map e) + 1 ≤ n + 1
  have := g.depAll xs
  omega, fun xs ys => g.eqvAll xs ys⟩
theorem goodT (g : Good e n) : Good (eT e) (n + 1) := ⟨fun xs => g.layAll xs, fun xs => by
  show PyData.depthAll (xs.map e) + 1 ≤ n + 1
  have := g.depAll xs
  omega, fun xs ys => g.eqvAll xs ys⟩
theorem goodP (g : Good e n) (k : Good f n) : Good (eP e f) (n + 1) := ⟨fun p => by
    show (PyData.canLay0 (e p.1) && (PyData.canLay0 (f p.2) && true)) = true
    rw [g.lay, k.lay]
    rfl, fun p => by
    show max (PyData.depth (e p.1)) (max (PyData.depth (f p.2)) 0) + 1 ≤ n + 1
    have h1 := g.dep p.1
    have h2 := k.dep p.2
    have : max (PyData.depth (e p.1)) (max (PyData.depth (f p.2)) 0) ≤ n := Nat.max_le.mpr ⟨h1, Nat.max_le.mpr ⟨h2, Nat.zero_le _⟩⟩
    omega, fun p q => by
    show (PyData.eqv (e p.1) (e q.1) && (PyData.eqv (f p.2) (f q.2) && true)) = _
    rw [g.eqv, k.eqv, Bool.eq_iff_iff]
    obtain ⟨a, b⟩ := p
    obtain ⟨c, d⟩ := q
    simp⟩
theorem Good.shaped (g : Good e n) (h : n ≤ 64) (x : α) : SeqAt.shaped (e x) = true := by
  unfold SeqAt.shaped
  rw [g.lay x, decide_eq_true (Nat.le_trans (g.dep x) h)]
  rfl
/-- two things compared -/
theorem eqE {K : PySem.W.Frag} {H : Hp} {v u : V} {x y : α} {Q : VK} (g : Good e n) (hn : n ≤ 64) (h1 : Dp K H v (e x)) (h2 : Dp K H u (e y)) (q : Q (.bl (decide (x = y))) H) : rEqD K v u H Q :=
  ⟨_, _, h1, h2, g.shaped hn x, g.shaped hn y, by rw [g.eqv]; exact q⟩
theorem neE {K : PySem.W.Frag} {H : Hp} {v u : V} {x y : α} {Q : VK} (g : Good e n) (hn : n ≤ 64) (h1 : Dp K H v (e x)) (h2 : Dp K H u (e y)) (q : Q (.bl (!decide (x = y))) H) : rNeD K v u H Q :=
  ⟨_, _, h1, h2, g.shaped hn x, g.shaped hn y, by rw [g.eqv]; exact q⟩
end
theorem dpI {K : PySem.W.Frag} {H : Hp} : ∀ (ns : List Int), DpAll K H (ns.map V.int) (ns.map PyData.int)
  | [] => .nil
  | n :: ns => .cons (.int n) (dpI ns)
/-- a list of ints -/
theorem dpL {K : PySem.W.Frag} {H : Hp} {a : Addr} {ns : List Int} (h : SqL K H a (ns.map V.int)) : Dp K H (.ref a) (eL PyData.int ns) := .lst h (dpI ns)
theorem dpT {K : PySem.W.Frag} {H : Hp} {a : Addr} {ns : List Int} (h : SqT K H a (ns.map V.int)) : Dp K H (.ref a) (eT PyData.int ns) := .tup h (dpI ns)
/-- lists of ints compared -/
theorem eqI_ {K : PySem.W.Frag} {H : Hp} {a b : Addr} {xs ys : List Int} {Q : VK} (h1 : SqL K H a (xs.map V.int)) (h2 : SqL K H b (ys.map V.int)) (q : Q (.bl (decide (xs = ys))) H) : rEqD K (.ref a) (.ref b) H Q := eqE (goodL goodI) (by decide) (dpL h1) (dpL h2) q
theorem neI_ {K : PySem.W.Frag} {H : Hp} {a b : Addr} {xs ys : List Int} {Q : VK} (h1 : SqL K H a (xs.map V.int)) (h2 : SqL K H b (ys.map V.int)) (q : Q (.bl (!decide (xs = ys))) H) : rNeD K (.ref a) (.ref b) H Q := neE (goodL goodI) (by decide) (dpL h1) (dpL h2) q
/-! ### new objects, the heap behind them by a letter -/
section
variable {X : Cx} {es : List Expr} {t : TA} {pos : Pos}
theorem pe_weak {e : Expr} {t t' : TE} (h : PE X e t) (w : ∀ σ H Q, t' σ H Q → t σ H Q) : PE X e t' := ⟨fun pins s σ H Q I q => h.run pins s σ H Q I (w σ H Q q)⟩
def tCutA (t : TA) : TA := fun σ H Q => ∃ M : List V → Hp → Prop, t σ H M ∧ ∀ vs H', M vs H' → Q vs H'
theorem pa_cut (h : PA X es t) : PA X es (tCutA t) := ⟨fun pos pins s σ H Q I ⟨M, hm, hq⟩ => thn (h.run pos pins s σ H M I hm) fun us s1 ⟨xs, H1, I1, r, q⟩ => ⟨xs, H1, I1, r, hq xs H1 q⟩⟩
/-- a new thing o, at any free place of any heap that keeps H -/
def New (o : HO) (H : Hp) (Q : VK) : Prop := ∀ p H', H p = none → Ex H H' → H' p = some o → Q (.ref p) H'
theorem New.go {o : HO} {H : Hp} {Q : VK} (k : New o H Q) (p : Addr) (hp : H p = none) : Q (.ref p) (upd H p o) := k p _ hp (Evl.Ex.new hp) upd_same
def tLstG (t : TA) : TE := fun σ H Q => t σ H fun xs H1 => xs.length ≤ sizeLine ∧ New (.lst xs) H1 Q
def tTupG (t : TA) : TE := fun σ H Q => t σ H fun xs H1 => xs.length ≤ sizeLine ∧ New (.tup xs) H1 Q
theorem pe_lstG (h : PA X es t) : PE X (.List es pos) (tLstG t) := pe_weak (pe_lst (pa_cut h)) fun σ H Q q => ⟨_, q, fun _ _ z => ⟨z.1, fun p hp => z.2.go p hp⟩⟩
theorem pe_tupG {x1} (h : PA X es t) : PE X (.Tuple es x1 pos) (tTupG t) := pe_weak (pe_tup (pa_cut h)) fun σ H Q q => ⟨_, q, fun _ _ z => ⟨z.1, fun p hp => z.2.go p hp⟩⟩
def rCatG : R2 := fun x y H Q => ∃ l b xs zs, x = .ref l ∧ y = .ref b ∧ H l = some (.lst xs) ∧ H b = some (.lst zs) ∧ xs.length + zs.length ≤ sizeLine ∧ New (.lst (xs ++ zs)) H Q
theorem op_catG : OpR X (binaryOp .Add) rCatG := fun pins s σ H x y v u Q I rx ry ⟨l, b, xs, zs, h1, h2, h3, h4, h5, k⟩ => op_cat pins s σ H x y v u Q I rx ry ⟨l, b, xs, zs, h1, h2, h3, h4, h5, fun p hp => k.go p hp⟩
def rRepG : R2 := fun x y H Q => ∃ l k xs, x = .ref l ∧ y = .int k ∧ H l = some (.lst xs) ∧ -(2 ^ 63) ≤ k ∧ k < 2 ^ 63 ∧ xs.length * k.toNat ≤ sizeLine ∧ New (.lst (List.replicate k.toNat xs).flatten) H Q
theorem op_repG : OpR X (binaryOp .Mult) rRepG := fun pins s σ H x y v u Q I rx ry ⟨l, k, xs, h1, h2, h3, h4, h5, h6, z⟩ => op_rep pins s σ H x y v u Q I rx ry ⟨l, k, xs, h1, h2, h3, h4, h5, h6, fun p hp => z.go p hp⟩
def rSlG (K : PySem.W.Frag) : V → Option Int → Option Int → Hp → VK → Prop := fun x lo hi H Q => ∃ a xs, x = .ref a ∧ SqL K H a xs ∧ New (.lst (cutV xs lo hi)) H Q
theorem sl_listG : SlR X (rSlG X.K) := fun pins s σ H x v vl vu lo hi sl Q I rx hs pl pu ⟨a, xs, h1, h2, k⟩ => sl_list pins s σ H x v vl vu lo hi sl Q I rx hs pl pu ⟨a, xs, h1, h2, fun p hp => k.go p hp⟩
def rListG (K : PySem.W.Frag) : List V → Hp → VK → Prop := fun xs H Q => ∃ p ys, xs = [.ref p] ∧ (SqL K H p ys ∨ SqT K H p ys) ∧ New (.lst ys) H Q
theorem call_listG : CallR X (.type "list") (rListG X.K) := fun pins s σ H xs us Q I r ⟨p, ys, h1, h2, k⟩ => call_list_of pins s σ H xs us Q I r ⟨p, ys, h1, h2, fun p hp => k.go p hp⟩
def rTupleG (K : PySem.W.Frag) : List V → Hp → VK → Prop := fun xs H Q => ∃ p ys, xs = [.ref p] ∧ SqL K H p ys ∧ New (.tup ys) H Q
theorem call_tupleG : CallR X (.type "tuple") (rTupleG X.K) := fun pins s σ H xs us Q I r ⟨p, ys, h1, h2, k⟩ => call_tuple_of pins s σ H xs us Q I r ⟨p, ys, h1, .inl ⟨h2, fun p hp => k.go p hp⟩⟩
def rSortedG (K : PySem.W.Frag) : List V → Hp → VK → Prop := fun vs H Q => ∃ (a : Addr) (ns : List Int), vs = [V.ref a] ∧ SqL K H a (ns.map V.int) ∧ ∀ ns' : List Int, ns'.Perm ns → ns'.Pairwise (· ≤ ·) → New (.lst (ns'.map V.int)) H Q
theorem cr_sortedG : CallR X (.builtin "sorted") (rSortedG X.K) := fun pins s σ H xs us Q I r ⟨a, ns, h1, h2, k⟩ => cr_sortedI pins s σ H xs us Q I r ⟨a, ns, h1, h2, fun ns' p h3 h4 hp => (k ns' h3 h4).go p hp⟩
end
/-! ### slices -/
theorem cut_to (xs : List V) (n : Nat) : cutV xs none (some (n : Int)) = xs.take n := by
  unfold cutV
  rw [HT.sIx_none, HT.sIx_nat, List.drop_zero, Nat.sub_zero]
  by_cases h : n ≤ xs.length
  · rw [Nat.min_eq_left h]
  · rw [Nat.min_eq_right (by omega), List.take_of_length_le (Nat.le_refl _), List.take_of_length_le (by omega)]
theorem cut_from (xs : List V) (n : Nat) : cutV xs (some (n : Int)) none = xs.drop n := by
  unfold cutV
  rw [HT.sIx_none, HT.sIx_nat]
  by_cases h : n ≤ xs.length
  · rw [Nat.min_eq_left h, List.take_of_length_le (by rw [List.length_drop]; exact Nat.le_refl _)]
  · rw [Nat.min_eq_right (by omega), List.drop_eq_nil_of_le (Nat.le_refl _), List.drop_eq_nil_of_le (by omega)]
    exact List.take_nil
/-! ### ways that come together -/
section
variable {X : Cx}
def tCutE (te : TE) : TE := fun σ H Q => ∃ M : V → Hp → Prop, te σ H M ∧ ∀ v H', M v H' → Q v H'
def tCutT (tt : TT) : TT := fun σ H Q => ∃ M : Bool → Hp → Prop, tt σ H M ∧ ∀ b H', M b H' → Q b H'
def tCutS (t : TS) : TS := fun D σ H => ∃ M : L2.St → Hp → Prop, t { D with nx := M } σ H ∧ ∀ σ' H', M σ' H' → D.nx σ' H'
theorem pe_cut {e : Expr} {te : TE} (h : PE X e te) : PE X e (tCutE te) := ⟨fun pins s σ H Q I ⟨M, hm, hq⟩ => thn (h.run pins s σ H M I hm) fun v s1 ⟨x, H1, I1, r, q⟩ => ⟨x, H1, I1, r, hq x H1 q⟩⟩
theorem pt_cut {e : Expr} {tt : TT} (h : PT X e tt) : PT X e (tCutT tt) := ⟨fun pins s σ H Q I ⟨M, hm, hq⟩ => thn (h.run pins s σ H M I hm) fun b s1 ⟨H1, I1, q⟩ => ⟨H1, I1, hq b H1 q⟩⟩
theorem ps_cut {st : Stmt} {t : TS} (h : PS X st t) : PS X st (tCutS t) := by
  refine ⟨fun pins s σ H D I ⟨M, hm, hq⟩ => thn (h.run pins s σ H { D with nx := M } I hm) fun f s1 q => ?_⟩
  cases f with
  | next =>
    obtain ⟨σ', H', I', q⟩ := q
    exact ⟨σ', H', I', hq σ' H' q⟩
  | ret v => exact q
  | brk => exact q
  | cont => exact q
end
theorem ifF {c : Bool} {A B : Prop} (h : c = false) (k : B) : if c = true then A else B := by
  rw [h]
  exact iteF k
theorem ifT {c : Bool} {A B : Prop} (h : c = true) (k : A) : if c = true then A else B := by
  rw [h]
  exact iteT k
theorem ifB {c : Bool} {A B : Prop} (h1 : c = true → A) (h2 : c = false → B) : if c = true then A else B := by
  cases c with
  | true => exact iteT (h1 rfl)
  | false => exact iteF (h2 rfl)
/-! ### comprehensions without tests, the element without a trace -/
theorem lc_mapL {K : PySem.W.Frag} {a : Addr} {xs ys : List V} {j : Nat} {te : TE} {vs : List Nat} {σ : L2.St} {H1 : Hp} {D : Addr} {Qd : Hp → Prop} (hx : SqL K H1 a xs) (hD : H1 D = none) (hl : ys.length = xs.length) (hz : xs.length ≤ sizeLine)
    (hw : ∀ x, wipe ((wipe σ vs).set j (some x)) vs = wipe σ vs)
    (he : ∀ (i : Nat) x y H', Ex H1 H' → xs[i]? = some x → ys[i]? = some y → ∀ R : VK, (∀ H2, Ex H' H2 → R y H2) → te ((wipe σ vs).set j (some x)) H' R)
    (k : ∀ H', Ex H1 H' → H' D = some (.lst ys) → Qd H') :
    ∃ W : Nat → Nat → Hp → Prop, (∃ m, W 0 m (upd H1 D (.lst []))) ∧ ∀ i m H, W i m H →
      ((Itl K a).stop i H ∧ Qd H) ∨ ((Itl K a).go i H ∧ ∃ Nx : Hp → Prop, (∀ H', Nx H' → ∃ m', m' < m ∧ W (i + 1) m' H') ∧ ∀ x H', (Itl K a).yld i H x H' → gName j x (wipe σ vs) H' fun σ2 H2 => wipe σ2 vs = wipe σ vs ∧ tYes σ2 H2 fun b H3 =>
        if b = true then te σ2 H3 fun y H4 => ∃ acc, H4 D = some (.lst acc) ∧ acc.length < sizeLine ∧ Nx (upd H4 D (.lst (acc ++ [y]))) else Nx H3) := by
  refine lc_list (xs := xs) (fun i H' => Ex H1 H' ∧ H' D = some (.lst (ys.take i))) ⟨Evl.Ex.new hD, upd_same⟩ (fun i H' _ p => Evl.ex_l p.1 hx) (fun i x H' hi p => ?_) (fun H' p => k H' p.1 ?_)
  · have hi' : i < xs.length := (List.getElem?_eq_some_iff.mp hi).1
    have hy : ys[i]? = some (ys[i]'(by omega)) := List.getElem?_eq_getElem (by omega)
    refine ⟨hw x, ?_⟩
    show te ((wipe σ vs).set j (some x)) H' _
    refine he i x _ H' p.1 hi hy _ fun H2 e2 => ⟨ys.take i, e2 _ _ p.2, ?_, ?_⟩
    · rw [List.length_take]
      omega
    · refine ⟨Evl.Ex.mut (p.1.trans e2) hD, ?_⟩
      rw [upd_same, List.take_add_one, hy]
      rfl
  · have := p.2
    rw [List.take_of_length_le (by omega)] at this
    exact this
end My
set_option Elab.async false
set_option linter.all false
set_option maxRecDepth 100000
set_option maxHeartbeats 4000000
/-! Own errors whose __init__ says super().__init__("..") and keeps one field. -/
namespace My
open PySem PySem.Spec PyProof.Rows L2 NdefX
/-! ### the built-in __init__ bound to a new error, called -/
section
variable {prog : Program} {w : World} {A : Around} {E : Value → Shared → Prop} {h : Heap} {g : Array GenState} {d : Drawn} {t : Nat} {os : OsState}
variable {nm q : Str} {C N : Addr} {bs bm : List Value} {hdct : Bool} {sn : List Str} {sub : List Value} {ab : Bool} {col : Option Bool} {dd : Option Addr} {k0 k1 k2 k3 k5 : Option Value}
theorem call_mwV {u e t0 : Addr} {rest : List Value} {Q : Value → Shared → Prop}
    (hC : h.get? C = some (excClassObj nm q C N bs bm hdct sn sub ab col dd k0 k1 k2 k3 k5 "ValueError.__new__")) (he : h.get? e = some (HandSPX.excO C t0)) (hu : h.get? u = some (PySem.W.kxs_mw "ValueError.__init__" e)) (hrest : rest.length ≤ sizeLine)
    (hq : ∀ h' t1, (∀ b o, b ≠ e → h.get? b = some o → h'.get? b = some o) → h'.get? e = some (HandSPX.excO C t1) → Q .none ⟨h', g, d, t, os⟩) :
    wpAny (model prog w) A (call (.ref u) rest) Q E ⟨h, g, d, t, os⟩ := by
  refine wpAny_call (codeAny_of_tree ?_)
  show wpAny _ A.in1 (callAny (.ref u) ⟨rest, []⟩) _ _ _
  simp only [callAny]
  refine wpAny_bind (wpAny_load hu ?_)
  simp only [PySem.W.kxs_mw, show (Value.type "method-wrapper" == Value.type "method" || Value.type "method-wrapper" == Value.type "builtin_function_or_method" || Value.type "method-wrapper" == Value.type "method-wrapper") = true by decide, if_true]
  refine W.KFB.if_so (by decide) ?_
  refine wpAny_bind (ESX.check_bound F.excBase_ValueError hC he rfl ?_)
  refine wpAny_bind (wpAny_pure (wpAny_pure ?_))
  refine ⟨Code.quiet_builtin _ (by decide +kernel), codeAny_builtin F.excBase_ValueError.initEntry ?_⟩
  rw [Around.under_plainId F.excBase_ValueError.init.plain _]
  wp_walk
  refine hq _ h.objs.size (fun b o hb ho => ?_) ?_
  · rw [Heap.get?_update_other _ _ (Ne.symm hb)]
    exact Heap.get?_push_of_some _ ho
  · rw [Heap.get?_update_self _ (Heap.get?_push_of_some _ he) rfl]
    rfl
end
/-- what the written part says of the __init__ and of the class D that holds it -/
structure InitT (P : Program) (K : PySem.W.Frag) (mg : Str → Option Value) (st : Stmt) (qu : Str) (fI cc cda D : Addr) (fd : FuncData) : Prop where
  ex : ∃ (oc : Value) (od : Option Addr) (kV doc pm : Value) (an : Option Addr) (ct : Value) (osl : Array (Option Value)),
    fd = PySem.W.fnX "__init__" qu (defArgs st) (defBody st) (defScope st) [("__class__", cc)] .none kV doc pm an (.ref cda) ct ∧ K.lookup fI = some ⟨oc, od, .func fd, osl⟩
  code : PySem.W.codeIn K (.ref cda) qu = true
  cell : ∃ cl cld csl, K.lookup cc = some ⟨cl, cld, .cell (some (.ref D)), csl⟩
  file : ∃ (ccl : Value) (cdd : Option Addr) (ccs : Array (Option Value)) (vs : Array Value) (fl : Str) (tf : Tok), K.lookup cda = some ⟨ccl, cdd, .fields vs, ccs⟩ ∧ vs[2]? = some (.str fl tf) ∧ ((P.main.file : Str) == fl) = true
  cls : ∃ cdD, PySem.W.clsIn K D = some cdD
  sup : mg "super" = none
  top : (P.main.scope.names.lookup ("super" : Str)).isSome = false
  opq : PySem.W.nsIn K cStatics "thirdparty.any" = some none
/-- what it says of a class C of errors that has this __init__ -/
structure ErrC (K : PySem.W.Frag) (fI D C : Addr) : Prop where
  oex : OexC K C
  init : PySem.W.findIn K (.ref C) "__init__" = some (some (.ref fI))
  tI : PySem.W.typeIn K (.ref fI) = some (.type "function")
  nov : PySem.W.findIn K (.ref C) "value" = some none
  mro : PySem.W.mroIn K C (.ref D) = some true
  sin : PySem.W.ks_superIn K C D "__init__" = some (some (.builtin "ValueError.__init__"))
  sub : PySem.W.subIn K (.ref C) (.type "ValueError") = some true
  xf : XfC K C
/-- the first statement, super().__init__("..") -/
abbrev sSuper (p0 p1 p2 p3 p4 p5 : Pos) (x : Str) (j : Nat) : Stmt := .Expr (.Call (.Attribute (.Call (.Name "super" p0) [] [] p1) "__init__" p2) [.Constant (.str x) j p3] [] p4) p5
abbrev sKeep (p0 p1 p2 p3 : Pos) : Stmt := .Assign [.Attribute (.Name "self" p0) "value" p1] (.Name "value" p2) p3
/-- the promise: the new error at a has, behind it, its dict with the value -/
def spErr (K : PySem.W.Frag) (fI D : Addr) : Sp := fun vs H Q _ => ∃ (a C : Addr) (v : V), vs = [.ref a, v] ∧ ErrC K fI D C ∧ H a = some (exo a C none) ∧
  ∀ dx, H dx = none → dx ≠ a → Q .non (upd (upd H dx (exd dx [("value", v)])) a (exo a C (some dx)))
section
variable {P : Program} {w : World} {K : PySem.W.Frag} {mg : Str → Option Value} {base : Heap} {st : Stmt} {qu : Str} {fI cc cda D : Addr} {fd : FuncData}
theorem super_step {A : Around} {outer : List Env} {s0 : Shared} {H0 : Hp} {E0' : XK} {F : NF} {body : List Stmt} {p0 p1 p2 p3 p4 p5 : Pos} {x : Str} {j : Nat} {a C : Addr} {v : V} {H : Hp} {s : Shared} {ws : List (Option V)} {Q : Flow → Shared → Prop} {N : List Str}
    (T : InitT P K mg st qu fI cc cda D fd) (hF : F = ⟨"__init__", qu, defArgs st, defBody st, defScope st, [("__class__", cc)], cda⟩) (TC : ErrC K fI D C)
    (hks : (defScope st).names.lookup ("super" : Str) = some .globalImplicit) (hkc : (defScope st).names.lookup ("__class__" : Str) = some .free) (hka : (defScope st).names.lookup ("self" : Str) = some .local) (hk : (defScope st).kind = .function)
    (hp : ((defArgs st).posonlyargs ++ (defArgs st).args).head?.map (·.arg) = some ("self" : Str)) (hN : N[0]? = some ("self" : Str))
    {pl : Sem Bool} (hev : ∀ env : Env, eval (.Call (.Attribute (.Call (.Name "super" p0) [] [] p1) "__init__" p2) [.Constant (.str x) j p3] [] p4) env = (do
      let ov ← attributeBase (.Call (.Name "super" p0) [] [] p1) "__init__" env (eval (.Call (.Name "super" p0) [] [] p1) env)
      standAt p2.atName
      let (f, first) ← holding [ov] (getMethod ov "__init__" pl)
      callWith p4 f first (backTo p4 (starEach [.Constant (.str x) j p3] env)) []))
    (I : Inv (ncx CX0 P w K mg base N F fI A outer s0 H0 E0') [] (some (.ref a) :: some v :: ws) H s) (ha : H a = some (exo a C none))
    (h : ∀ s', Inv (ncx CX0 P w K mg base N F fI A outer s0 H0 E0') [] (some (.ref a) :: some v :: ws) H s' → Q .next s') :
    _root_.PySem.wpAt (model P w) (ncx CX0 P w K mg base N F fI A outer s0 H0 E0').A (.func body (ncx CX0 P w K mg base N F fI A outer s0 H0 E0').env) (exec (sSuper p0 p1 p2 p3 p4 p5 x j) (ncx CX0 P w K mg base N F fI A outer s0 H0 E0').env) Q (ncx CX0 P w K mg base N F fI A outer s0 H0 E0').xe s := by
  subst hF
  obtain ⟨oc, od, kV, doc, pm, an, ct, osl, efd, lk⟩ := T.ex
  obtain ⟨cl, cld, csl, hcell⟩ := T.cell
  obtain ⟨ccl, cdd, ccs, vs, fl, tf, hcode, hvs, hfile⟩ := T.file
  obtain ⟨cdD, hD⟩ := T.cls
  obtain ⟨nm, q, N', bs, bm, sn, sub, ab, col, dd, k0, k1, k2, k3, k5, hC, hbm⟩ := TC.oex.cls
  have hcl : PySem.W.clsIn K C = some { name := nm, bases := bs, mro := .ref C :: bm, ns := N', qualname := q, hasDict := true, slotNames := sn, subclasses := sub, abstract := ab, collection := col, hasDel := false } := by unfold PySem.W.clsIn; rw [hC] <;> rfl
  have KX : K.In s.heap := I.kIn
  obtain ⟨ar, har, harg⟩ : ∃ ar, ((defArgs st).posonlyargs ++ (defArgs st).args).head? = some ar ∧ ar.arg = ("self" : Str) := by
    cases e : ((defArgs st).posonlyargs ++ (defArgs st).args).head? with
    | none => rw [e] at hp; cases hp
    | some ar => rw [e] at hp; exact ⟨ar, rfl, Option.some.inj hp⟩
  obtain ⟨oD, hD1, hD2⟩ : ∃ oD, s.heap.get? D = some oD ∧ oD.data = .cls cdD := by
    unfold PySem.W.clsIn at hD
    split at hD
    · rename_i c d cd' sl ho
      cases hD
      exact ⟨_, KX _ _ ho, rfl⟩
    · cases hD
  obtain ⟨t1, hoe⟩ := exo_at I.hok ha
  -- the name self
  obtain ⟨m, hns, hl⟩ := id I.loc
  obtain ⟨u0, ru, lu⟩ := hl 0 "self" (.ref a) hN rfl (.inl hka)
  obtain rfl : u0 = Value.ref a := ru
  have hself : m "self" = some (.ref a) := by
    rcases lu with ⟨_, q⟩ | ⟨q, _⟩
    · exact q
    · have e : (defScope st).names.lookup ("self" : Str) = some .cell ∨ (defScope st).names.lookup ("self" : Str) = some .free := q
      rw [hka] at e
      rcases e with z | z <;> cases z
  obtain ⟨mb, hb1, hb2⟩ := I.mod.blt
  refine ks_wpAt_Expr_any (ks_wpAt_MethodCall ?_ (hev _)) (I.quiet) rfl
  refine ks_wpAt_super_base hks hkc (by decide) rfl (KX _ _ lk) (by rw [efd]) (ar := ar) har rfl (KX _ _ hcode) rfl hvs hfile T.top ?_
  refine PySem.W.ks_loadName_global hk hks (Calls.loadGlobal_builtin (I.mod.glob.keeps I.bk) T.sup (hb1.keeps I.bk) ((hb2 _ (by decide)).trans (by decide +kernel)) ⟨rfl, ?_⟩)
  refine wpAny_loadName_free hk hkc rfl ⟨_, KX _ _ hcell, rfl⟩ ?_
  rw [harg]
  refine wpAny_loadName_local hk hka hns hself ?_
  refine ks_wpAny_isType_cls hD1 hD2 ⟨rfl, ?_⟩
  obtain ⟨hp0, g, d, t, os⟩ := s
  refine ks_wpAny_call_super hD1 hD2 hoe rfl (fun c e => by cases e) (PySem.W.looks_mroIn KX TC.mro) (fun h1 e1 k1' => ?_)
  have I1 : Inv (ncx CX0 P w K mg base N ⟨"__init__", qu, defArgs st, defBody st, defScope st, [("__class__", cc)], cda⟩ fI A outer s0 H0 E0') [] (some (.ref a) :: some v :: ws) H ⟨h1, g, d, t, os⟩ := I.kept (h' := h1) (t' := t) k1'
  have KX1 : K.In h1 := I1.kIn
  have hoe1 := k1' _ _ hoe
  have hnaC : a ≠ C := by
    rintro rfl
    have z := KX _ _ hC
    rw [hoe] at z
    cases z
  have hI1 : PySem.W.Looks (model P w) h1 (isInstance (.ref a) (.type "ValueError")) true := (show PySem.W.InstAt h1 a _ C none from ⟨hoe1, rfl, rfl, trivial⟩).type.andThen (PySem.W.looks_subIn KX1 TC.sub)
  have hsin := TC.sin
  unfold PySem.W.ks_superIn at hsin
  rw [hcl, Option.bind_some] at hsin
  refine PySem.W.kxs_getMethod PySem.W.kxs_ValueError e1 (PySem.W.looks_opaque KX1 T.opq) (l₀ := .ref C :: bm) ?_ rfl KX1 hsin hI1 hnaC (by decide) ?_
  · exact fun A Q E s k q => wpAny_bind ((PySem.W.looks_clsIn KX1 hcl) A _ E s k (wpAny_pure q))
  have I2 : Inv (ncx CX0 P w K mg base N ⟨"__init__", qu, defArgs st, defBody st, defScope st, [("__class__", cc)], cda⟩ fI A outer s0 H0 E0') [] (some (.ref a) :: some v :: ws) H ⟨h1.push (PySem.W.kxs_mw "ValueError.__init__" a), g, d, t + 1, os⟩ := I1.kept (t' := t + 1) fun b o e => Heap.get?_push_of_some _ e
  have hu2 : (h1.push (PySem.W.kxs_mw "ValueError.__init__" a)).get? h1.objs.size = some (PySem.W.kxs_mw "ValueError.__init__" a) := Heap.get?_push_at rfl rfl
  have hoe2 : (h1.push (PySem.W.kxs_mw "ValueError.__init__" a)).get? a = _ := Heap.get?_push_of_some _ hoe1
  show wpAny _ _ (callWith p4 (.ref h1.objs.size) [] (backTo p4 (starEach [.Constant (.str x) j p3] _)) []) _ _ _
  refine PySem.W.kxs_callWith (i := "ValueError.__init__") (x := a) rfl (PySem.Calls.evalArgs_plain ?_)
  refine args_cons (Calls.Constant_str (args_nil ⟨hu2, ?_⟩)) rfl
  have I3 := I2.tok (t + 1 + 1)
  refine call_mwV (KX1.keeps (fun b o e => Heap.get?_push_of_some _ e) _ _ hC) hoe2 hu2 (by show 1 ≤ sizeLine; decide) (fun h' t' k he => ?_)
  have J := I3.write (t' := t + 1 + 1) (x := a) (e := a) (o := exo a C none) (by rw [ha]; exact True.intro) (.inl rfl) k ⟨_, he⟩ (exo_ok he)
  have eu : upd H a (exo a C none) = H := by
    funext b
    by_cases hb : b = a
    · rw [hb, upd_same, ha]
    · rw [upd_ne hb]
  rw [eu] at J
  exact h _ J
theorem ok_err {p0 p1 p2 p3 p4 p5 q0 q1 q2 q3 : Pos} {x : Str} {j : Nat} {pl : Sem Bool} (T : InitT P K mg st qu fI cc cda D fd) (S : NScope ["self", "value", "__class__"] ["self", "value"] ["__class__"] (defScope st))
    (hbd : defBody st = [sSuper p0 p1 p2 p3 p4 p5 x j, sKeep q0 q1 q2 q3]) (hks : (defScope st).names.lookup ("super" : Str) = some .globalImplicit)
    (hp : ((defArgs st).posonlyargs ++ (defArgs st).args).head?.map (·.arg) = some ("self" : Str))
    (hev : ∀ env : Env, eval (.Call (.Attribute (.Call (.Name "super" p0) [] [] p1) "__init__" p2) [.Constant (.str x) j p3] [] p4) env = (do
      let ov ← attributeBase (.Call (.Name "super" p0) [] [] p1) "__init__" env (eval (.Call (.Name "super" p0) [] [] p1) env)
      standAt p2.atName
      let (f, first) ← holding [ov] (getMethod ov "__init__" pl)
      callWith p4 f first (backTo p4 (starEach [.Constant (.str x) j p3] env)) [])) : FnOk P w K mg base CX0 1 fI fd ["self", "value"] (spErr K fI D) := by
  refine ⟨fun vs H Q E h => by obtain ⟨a, C, v, rfl, _⟩ := h; rfl, fun A outer s H args us vs Q E hr e0 hb r hsp => ?_⟩
  have KX : K.In s.heap := e0.mod.kin.keeps fun b o e => (e0.bs b o e).1
  have lim : s.heap.NoLimit := e0.mod.nolimit.keeps fun b o e => (e0.bs b o e).1
  obtain ⟨oc, od, kV, doc, pm, an, ct, osl, efd, lk⟩ := id T.ex
  obtain ⟨cl, cld, csl, hcell⟩ := T.cell
  obtain ⟨a, C, v, ev, TC, ha, k⟩ := hsp
  subst ev
  have hl : [V.ref a, v].length = (["self", "value"] : List Str).length := rfl
  have hC : CellsAt [(("__class__" : Str), cc)] ["__class__"] [some (.ref D)] s.heap H := by
    have hb := e0.mod.kin _ _ hcell
    have hs := e0.bs _ _ hb
    have key : ∀ {y : Str} {c : Addr}, ([(("__class__" : Str), cc)] : List (Str × Addr)).lookup y = some c → c = cc ∧ y = "__class__" := fun {y c} e => by
      have z := PySem.mem_of_lookup e
      have z' : (y, c) = (("__class__" : Str), cc) := by simpa using z
      exact ⟨congrArg Prod.snd z', congrArg Prod.fst z'⟩
    refine ⟨rfl, fun y c e => ?_, fun y z c e1 e2 => (key e1).2.trans (key e2).2.symm, fun i y e => ?_⟩
    · obtain ⟨rfl, rfl⟩ := key e
      exact ⟨hs.2, _, _, hs.1, rfl⟩
    · cases i with
      | zero =>
        have e' : ("__class__" : Str) = y := Option.some.inj e
        subst e'
        refine ⟨cc, by simp [List.lookup], fun u hu => ?_⟩
        have hu' : some (some (V.ref D)) = some (some u) := hu
        cases hu'
        exact ⟨.ref D, rfl, _, hs.1, rfl⟩
      | succ i => simp at e
  have hfd : (K.lookup fI) = some ⟨oc, od, .func (PySem.W.fnX "__init__" qu (defArgs st) (defBody st) (defScope st) [("__class__", cc)] .none kV doc pm an (.ref cda) ct), osl⟩ := by rw [← efd]; exact lk
  refine codeAny_call_function hr.depth (KX _ _ hfd) rfl S.co S.gen rfl (PySem.W.codeRec_of KX T.code) ?_
  have hb' := hb
  rw [efd] at hb'
  refine hb' _ _ _ _ ?_
  refine wpAny_newFunctionEnv S.nocell (fun ⟨n, _⟩ hy => S.par n (List.of_mem_zip hy).1) (fun h₁ hns hsb => ⟨lim.fresh _ hsb, ?_⟩) S.kind
  have kp : ∀ b o, s.heap.get? b = some o → h₁.get? b = some o := fun b o e => hsb.extBut b o (Nat.ne_of_lt (Heap.lt_size e)) (Heap.get?_push_of_some _ e)
  have I : Inv (ncx CX0 P w K mg base ["self", "value", "__class__"] ⟨"__init__", qu, defArgs st, defBody st, defScope st, [("__class__", cc)], cda⟩ fI A outer s H E) [] (startF ["self", "value", "__class__"] [V.ref a, v] [some (.ref D)]) H { s with heap := h₁, toks := s.toks + ((["self", "value"] : List Str).zip us).length } :=
    inv_startN (F := ⟨"__init__", qu, defArgs st, defBody st, defScope st, [("__class__", cc)], cda⟩) S hr.hd e0 hl r hC hns kp
  refine ks_codeAny_funcAt (env := (ncx CX0 P w K mg base ["self", "value", "__class__"] ⟨"__init__", qu, defArgs st, defBody st, defScope st, [("__class__", cc)], cda⟩ fI A outer s H E).env) (body := defBody st) ?_
  rw [show execs (defBody st) = execs [sSuper p0 p1 p2 p3 p4 p5 x j, sKeep q0 q1 q2 q3] from congrArg execs hbd]
  refine ks_wpAt_execs_cons (super_step T rfl TC hks (S.frk _ (by simp)) (S.par _ (by simp)) S.kind hp rfl hev I ha fun s' I' => ?_)
  have hpst : PSs (ncx CX0 P w K mg base ["self", "value", "__class__"] ⟨"__init__", qu, defArgs st, defBody st, defScope st, [("__class__", cc)], cda⟩ fI A outer s H E) [sKeep q0 q1 q2 q3] _ :=
    pss_one (ps_ost (pe_var (i := 0) rfl (.inl (S.par _ (by simp)))) (pe_var (i := 1) rfl (.inl (S.par _ (by simp)))))
  have run := hpst.run [] s' _ H { nx := fun _ H' => Q .non H', rt := Q } I' ⟨_, rfl, _, rfl, a, C, rfl, TC.oex, TC.nov, .inl ⟨ha, k⟩⟩
  refine wpAt_of_wpAny (wpAny_mono run (fun fl s2 hs => ?_) fun e s2 hs => hs)
  have fin : ∀ {σ' : L2.St} {H' : Hp} {v : V} {u : Value}, Inv (ncx CX0 P w K mg base ["self", "value", "__class__"] ⟨"__init__", qu, defArgs st, defBody st, defScope st, [("__class__", cc)], cda⟩ fI A outer s H E) [] σ' H' s2 → L2.RelV v u → Q v H' → CE outer P w H s Q u s2 :=
    fun {σ' H' v u} J rv q => ⟨v, H', J.os, J.bare, J.base, J.hok, rv, q⟩
  cases fl with
  | ret u =>
    obtain ⟨v, σ', H', J, rv, q⟩ := hs
    exact fin J rv q
  | next =>
    obtain ⟨σ', H', J, q⟩ := hs
    exact fin (v := V.non) (u := Value.none) J rfl q
  | brk =>
    obtain ⟨_, _, _, q⟩ := hs
    exact False.elim q
  | cont =>
    obtain ⟨_, _, _, q⟩ := hs
    exact False.elim q
end
/-! ### raise X(e) -/
/-- an error of the class at C with the value v is what is wanted -/
def Raised (C : Addr) (v : V) (H : Hp) (E : XK) : Prop := ∀ d H', H d = none → Ex H H' → H' d = some (.xd [("value", v)]) → E (.ref C) (some d) H'
def tErr (C : Addr) (ta : TA) : L2.St → Hp → XK → Prop := fun σ H Q => ta σ H fun vs H1 => ∃ v, vs = [v] ∧ Raised C v H1 Q
section
variable {X : Cx} {K : PySem.W.Frag} {fI D C : Addr} {fd : FuncData} {x : Str} {p pos : Pos} {e : Expr} {ta : TA}
theorem pmk_err (F : FnOk X.prog X.w X.K X.mg X.base CX0 1 fI fd ["self", "value"] (spErr X.K fI D)) (hb : Binds X.K fd ["self", "value"] []) (TC : ErrC X.K fI D C) (hr : Room 2 X.A) (hg : Gl X x) (hm : X.mg x = some (.ref C)) (ha : PA X [e] ta)
    (hdb : (x == ("__debug__" : Str)) = false := by decide) (he : starEach [e] X.env = (false, eval e X.env) :: starEach [] X.env := by rfl) (hpl : (backTo pos (starEach [] X.env)).any (·.1) = false := by rfl) :
    PMk X (.Call (.Name x p) [e] [] pos) (tErr C ta) := fun pins s σ H Q I h => by
  refine pmk_oex (sp := spErr X.K fI D) (dvs := []) TC.oex TC.init TC.tI F hr hb .nil pass0 hg hm (pa_cut ha) hdb he hpl pins s σ H Q I ⟨_, h, fun vs H1 z => ?_⟩
  obtain ⟨v, rfl, k⟩ := z
  refine ⟨by show 1 ≤ 1000; decide, fun a hn => ⟨a, C, v, rfl, TC, upd_same, fun dx hdx ne => ⟨rfl, dx, [("value", v)], upd_same, by rw [upd_ne ne, upd_same], ?_, ?_⟩⟩⟩
  · rw [upd_ne ne] at hdx
    exact hdx
  · rw [upd_ne ne] at hdx
    refine k dx _ hdx (fun b o hb => ?_) upd_same
    have n1 := ne_of_none hb hdx
    have n2 := ne_of_none hb hn
    rw [upd_ne n1, del_ne n2, upd_ne n2, upd_ne n1, upd_ne n2]
    exact hb
end
/-- calls of a def that may raise, in one that may -/
theorem passX {P : Program} {w : World} {K : PySem.W.Frag} {mg : Str → Option Value} {base : Heap} {N : List Str} {qual : Str} {scope : Scope} {f : Addr} {cd : Value} {A : Around} {outer : List Env} {s : Shared} {H : Hp} {E : XK} :
    Passes (L2.CX P w) (cxOf (L2.CX P w) P w K mg base N qual scope f cd A outer s H E) E := passes_call (X := cxOf (L2.CX P w) P w K mg base N qual scope f cd A outer s H E) (takes_of rfl rfl rfl rfl) (fun _ _ _ _ h => h)
/-! ### what the head's facts give -/
theorem along_ve (K : PySem.W.Frag) : PySem.W.alongIn K "__init__" PySem.HandSPX.veTail = some (some (.builtin "ValueError.__init__")) := by kernel_rfl
section
variable {K : PySem.W.Frag} {nm q : Str} {C D N : Addr} {bs : List Value} {sn : List Str} {sub : List Value} {ab : Bool} {col : Option Bool} {dd : Option Addr} {k0 k1 k2 k3 k5 : Option Value}
theorem sup_self (h : K.lookup C = some (excClassObj nm q C N bs PySem.HandSPX.veTail true sn sub ab col dd k0 k1 k2 k3 k5 "ValueError.__new__")) (e : C = D) : PySem.W.ks_superIn K C D "__init__" = some (some (.builtin "ValueError.__init__")) := by
  subst e
  unfold PySem.W.ks_superIn PySem.W.clsIn
  rw [h]
  show PySem.W.alongIn K "__init__" (((Value.ref C :: PySem.HandSPX.veTail).dropWhile (· != .ref C)).drop 1) = _
  rw [ESX.drop_own]
  exact along_ve K
theorem sup_child (h : K.lookup C = some (excClassObj nm q C N bs (.ref D :: PySem.HandSPX.veTail) true sn sub ab col dd k0 k1 k2 k3 k5 "ValueError.__new__")) (e : (C == D) = false) : PySem.W.ks_superIn K C D "__init__" = some (some (.builtin "ValueError.__init__")) := by
  unfold PySem.W.ks_superIn PySem.W.clsIn
  rw [h]
  show PySem.W.alongIn K "__init__" (((Value.ref C :: Value.ref D :: PySem.HandSPX.veTail).dropWhile (· != .ref D)).drop 1) = _
  have ne : ((Value.ref C : Value) != .ref D) = true := by
    have : C ≠ D := by simpa using e
    simp [this]
  rw [List.dropWhile_cons, if_pos ne, ESX.drop_own]
  exact along_ve K
theorem exm_gen {S S' : Addr} {b : Bool} (h1 : PySem.W.subIn K (.ref S') (.type "BaseException") = some true) (h2 : PySem.W.isClsIn K S' = true) (h3 : PySem.W.typeIn K (.ref S') = some (.type "type")) (h4 : PySem.W.subIn K (.ref S) (.ref S') = some b) :
    PySem.W.exmOne K (.ref S) (.ref S') = some b := by
  have e1 : (PySem.W.subIn K (.ref S') (.type "BaseException") == some true) = true := by rw [h1] <;> rfl
  have e2 : ((PySem.W.clsIn K S').isSome && PySem.W.typeIn K (.ref S') == some (.type "type")) = true := by
    have h2' : (PySem.W.clsIn K S').isSome = true := h2
    rw [h2', h3] <;> rfl
  show (if (PySem.W.subIn K (.ref S') (.type "BaseException") == some true) = true then (if ((PySem.W.clsIn K S').isSome && PySem.W.typeIn K (.ref S') == some (.type "type")) = true then PySem.W.subIn K (.ref S) (.ref S') else none) else none) = some b
  rw [if_pos e1, if_pos e2]
  exact h4
end
end My
set_option Elab.async false
set_option linter.all false
set_option maxRecDepth 100000
set_option maxHeartbeats 4000000
/-! Further rules: sum of a tuple, len of a range, calls by keywords of a def that may raise. -/
namespace My
open PySem PySem.Spec PyProof.Rows L2
section
variable {prog : Program} {w : World} {A : Around} {E : Value → Shared → Prop} {s : Shared} {l : Addr} {its : List Value} {ns : List Int} {Q : Value → Shared → Prop}
theorem sum_tupRaw (hh : A.handled = none) (hl : s.heap.IsTuple l its.toArray) (hi : IntsAre its ns)
    (h : ∀ h' tk t', (∀ b o, s.heap.get? b = some o → h'.get? b = some o) → Q (.int ns.sum t') { s with heap := h', toks := tk }) : wpAny (model prog w) A (call (.builtin "sum") [.ref l]) Q E s := by
  obtain ⟨xs, e⟩ := hi.allInts.items
  have hn : numsOf (intItems xs).toList = ns := by rw [← e]; exact hi.numsOf
  rw [nums_intItems] at hn
  rw [e] at hl
  have hlt : l < s.heap.objs.size := by obtain ⟨_, e, _⟩ := hl; exact Heap.lt_size e
  refine call_sum_walkG (wpAny_pyIter_tuple hl ?_)
  refine ⟨_, _, _, _, _, _, numAt xs, rfl, Walks.tuple (A := A.in1) hh _ l (Nat.ne_of_lt hlt) (intItems xs), ⟨⟨_, Heap.get?_push_size _ rfl, rfl, rfl⟩, ?_⟩, (fun b hb => ?_), (fun _ _ => intItems_at), fun h' tk t' hk => ?_⟩
  · obtain ⟨o, e1, e2⟩ := hl
    exact ⟨o, Heap.get?_push_of_some _ e1, e2⟩
  · show b < (s.heap.push _).objs.size
    rw [Heap.size_push]
    rcases List.mem_cons.mp hb with rfl | hb
    · exact Nat.lt_succ_self _
    · rcases List.mem_cons.mp hb with rfl | hb
      · exact Nat.lt_succ_of_lt hlt
      · cases hb
  · have := h h' tk t' (fun b o e => hk b o (fun hm => by
      have z : b = s.heap.objs.size := by simpa using hm
      exact Nat.ne_of_lt (Heap.lt_size e) z) (Heap.get?_push_of_some _ e))
    have e2 : preSum (numAt xs) (intItems xs).size = ns.sum := by
      rw [preSum_eq, List.take_of_length_le (by simp [intItems]), hn]
    rw [e2]
    exact this
end
section
variable {X : Cx}
def rSumT (K : PySem.W.Frag) : List V → Hp → VK → Prop := fun vs H Q => ∃ (a : Addr) (ns : List Int), vs = [V.ref a] ∧ SqT K H a (ns.map V.int) ∧ Q (.int ns.sum) H
theorem cr_sumT (hc : X.calm = true) : CallR X (.builtin "sum") (rSumT X.K) := by
  intro pins s σ H vs us Q I r h
  obtain ⟨a, ns, rfl, hs, q⟩ := h
  obtain ⟨its, rv, hl, _⟩ := I.tuple hs
  rw [Vals.ref1 r]
  exact sum_tupRaw (I.ok.hd hc) hl rv.ints fun h' tk t' hk => ⟨.int _, H, I.kept hk, ⟨_, rfl⟩, q⟩
/-- len(range(a, b)) -/
def rLenR : List V → Hp → VK → Prop := fun vs H Q => ∃ (p : Addr) (lo hi : Int), vs = [V.ref p] ∧ H p = some (.rng lo hi) ∧ hi - lo < 2 ^ 62 ∧ Q (.int (if lo < hi then hi - lo else 0)) H
theorem call_lenR : CallR X (.builtin "len") rLenR := by
  intro pins s σ H vs us Q I r h
  obtain ⟨p, lo, hi, rfl, hp, hz, q⟩ := h
  rw [Vals.ref1 r]
  obtain ⟨t, u, v, ho⟩ := (show ObjOk X.prog X.w H s.heap p (.rng lo hi) from I.hok p _ hp)
  have e : ((if lo < hi then hi - lo else 0 : Int)) = (((if lo < hi then hi - lo else 0 : Int)).toNat : Int) := by split <;> omega
  refine call_len_range (n := ((if lo < hi then hi - lo else 0 : Int)).toNat) (a := lo) (b := hi) (c := 1) ho ?_ ?_ ?_
  · rw [rangeSize_one, ← e]
  · rw [← e]
    split <;> omega
  · rw [← e]
    exact ⟨.int _, H, I.tok _, ⟨_, rfl⟩, q⟩
def rRangeG : List V → Hp → VK → Prop := fun vs H Q => ∃ i j, vs = [V.int i, V.int j] ∧ New (.rng i j) H Q
theorem cr_rangeG : CallR X (.type "range") rRangeG := fun pins s σ H xs us Q I r ⟨i, j, h1, k⟩ => cr_range2 pins s σ H xs us Q I r ⟨i, j, h1, fun p hp => k.go p hp⟩
end
section
variable {X : Cx} {CX : CXT} {k : Nat} {f C : Addr} {fd : FuncData} {ps ks : List Str} {sp : Sp} {E : L2.St → XK} {x m : Str} {p pos apos kpos : Pos} {kws : List Keyword} {tk : TA} {g : List Value → List Value → List Value} {gV : List V → List V → List V}
theorem run_fnkS {pins : List (Addr × Obj)} {σ : L2.St} {H : Hp} {s : Shared} {Q : VK} {us ws : List Value} {vs zs : List V} (F : FnOk X.prog X.w X.K X.mg X.base CX k f fd ps sp) (hr : Room k X.A) (hb : KBinds X.K fd ps ks g gV) (hx : PassesAt CX X σ (E σ))
    (I : Inv X pins σ H s) (r : Vals vs us) (rz : Vals zs ws) (h : sp (gV vs zs) H Q (E σ)) : wpAny (model X.prog X.w) X.A (call (.ref f) us (ks.zip ws)) (EP X pins σ Q) X.xe s := by
  have r2 := hb.rel r rz
  have hl : (g us ws).length = ps.length := by rw [← r2.length]; exact F.len _ _ _ _ h
  refine wpAny_call (codeAny_mono (F.run X.A X.stack s H ⟨us, ks.zip ws⟩ (g us ws) (gV vs zs) Q (E σ) hr I.env0 (hb.to s us ws I.kIn hl) r2 h) fun r s' hq => ?_)
  cases r with
  | error e => exact hx pins H s e s' I hq
  | ok fl =>
    cases fl with
    | ret u => exact I.after hq
    | next => exact False.elim hq
    | brk => exact False.elim hq
    | cont => exact False.elim hq
def tCallKS (sp : Sp) (gV : List V → List V → List V) (E : L2.St → XK) (t tk : TA) : TE := fun σ H Q => t σ H fun vs H1 => tk σ H1 fun zs H2 => sp (gV vs zs) H2 Q (E σ)
/-- f(k = v, ..) in a try -/
theorem pe_callK0S (F : FnOk X.prog X.w X.K X.mg X.base CX k f fd ps sp) (hr : Room k X.A) (hg : Gl X x) (hm : X.mg x = some (.ref f)) (hk : PySem.W.keepIn X.K (.ref f) = true) (hb : KBinds X.K fd ps ks g gV) (hx : ∀ σ, PassesAt CX X σ (E σ))
    (hkw : PK X kws tk) (hall : (backToKw pos (keywordEach kws X.env)).all (·.1.isSome) = true := by rfl) (hks : (backToKw pos (keywordEach kws X.env)).filterMap (·.1) = ks := by rfl)
    (hdb : (x == ("__debug__" : Str)) = false := by decide)
    (hpl : ((backTo pos (starEach [] X.env)).any (·.1) || (backToKw pos (keywordEach kws X.env)).any (·.1.isNone)) = false := by rfl) :
    PE X (.Call (.Name x p) [] kws pos) (tCallKS sp gV E tNil tk) := by
  refine ⟨fun pins s σ H Q I h => ?_⟩
  refine wpAny_Call_Name_kw (ld_glob I hg hm ?_ hdb)
  refine PySem.W.callWith_KW0 (h₀ := X.base) I.ok.mod.kin hk hall ?_ hpl
  refine thn (hkw.run pos pins s σ H _ I h) fun ws s2 ⟨zs, H2, I2, rz, q2⟩ => ⟨I2.kIn, ?_⟩
  rw [hks]
  exact run_fnkS (us := []) (vs := []) F hr hb (hx σ) I2 .nil rz q2
variable {e : Expr} {es : List Expr} {t : TA}
/-- f(e, .., k = v, ..) in a try -/
theorem pe_callKS (F : FnOk X.prog X.w X.K X.mg X.base CX k f fd ps sp) (hr : Room k X.A) (hg : Gl X x) (hm : X.mg x = some (.ref f)) (hk : PySem.W.keepIn X.K (.ref f) = true) (hb : KBinds X.K fd ps ks g gV) (hx : ∀ σ, PassesAt CX X σ (E σ))
    (ha : PA X (e :: es) t) (hkw : PK X kws tk) (hall : (backToKw pos (keywordEach kws X.env)).all (·.1.isSome) = true := by rfl) (hks : (backToKw pos (keywordEach kws X.env)).filterMap (·.1) = ks := by rfl)
    (hdb : (x == ("__debug__" : Str)) = false := by decide) (he : starEach (e :: es) X.env = (false, eval e X.env) :: starEach es X.env := by rfl)
    (hpl : ((backTo pos (starEach (e :: es) X.env)).any (·.1) || (backToKw pos (keywordEach kws X.env)).any (·.1.isNone)) = false := by rfl) :
    PE X (.Call (.Name x p) (e :: es) kws pos) (tCallKS sp gV E t tk) := by
  refine ⟨fun pins s σ H Q I h => ?_⟩
  refine wpAny_Call_Name_kw (ld_glob I hg hm ?_ hdb)
  refine PySem.W.callWith_KW (h₀ := X.base) I.ok.mod.kin hk hall (thn (ha.run pos pins s σ H _ I h) fun us s1 ⟨vs, H1, I1, r, q⟩ => ?_) hpl he
  refine thn (hkw.run pos pins s1 σ H1 _ I1 q) fun ws s2 ⟨zs, H2, I2, rz, q2⟩ => ⟨I2.kIn, ?_⟩
  rw [hks]
  exact run_fnkS F hr hb (hx σ) I2 r rz q2
end
/-! rules within a comprehension: what may be kept by name is that of the def -/
section
variable {X : Cx} {K : PySem.W.Frag}
theorem crK {f : Value} {r : PySem.W.Frag → List V → Hp → VK → Prop} (h : X.K = K) (c : CallR X f (r X.K)) : CallR X f (r K) := h ▸ c
theorem ixK {r : PySem.W.Frag → R2} (h : X.K = K) (c : IxR X (r X.K)) : IxR X (r K) := h ▸ c
theorem opK {f : Value → Value → Sem Value} {r : PySem.W.Frag → R2} (h : X.K = K) (c : OpR X f (r X.K)) : OpR X f (r K) := h ▸ c
def rLenSq (K : PySem.W.Frag) : List V → Hp → VK → Prop := fun xs H Q => ∃ p ys, xs = [.ref p] ∧ (SqL K H p ys ∨ SqT K H p ys) ∧ Q (.int ys.length) H
end
end My
set_option Elab.async false
set_option linter.all false
set_option maxRecDepth 100000
set_option maxHeartbeats 4000000
/-! zip of three lists: the iterators lie at n, n + 1, n + 2, the tuples at n + 3, n + 4, the zip at n + 5. -/
namespace My
open PySem PySem.Spec PyProof.Rows L2
theorem typeCall_zip_3 (a b c : Value) : checkTypeCall "zip" ⟨[a, b, c], []⟩ = pure () := by kernel_rfl
theorem newCall_zip_3 (a b c : Value) : checkBuiltinCall "zip.__new__" ⟨[.type "zip", a, b, c], []⟩ = pure () := by kernel_rfl
theorem args_object_init_4 (a b c d : Value) : argsOk "object.__init__" ⟨[a, b, c, d], []⟩ := by
  unfold argsOk
  rw [signature?_of (id := "object.__init__") (n := ['_', '_', 't', 'i', 'n', 'i', '_', '_']) (o := ['t', 'c', 'e', 'j', 'b', 'o']) (by kernel_rfl) F.owner_object]
  kernel_rfl
abbrev IsTrip (h : Heap) (T : Addr) (a b c : Value) : Prop := h.get? T = some { cls := .type "tuple", data := .seq #[a, b, c] }
section
variable {prog : Program} {w : World} {A : Around} {E : Value → Shared → Prop} {s : Shared}
theorem updateSeq_trip {T : Addr} {a b c x : Value} {k : Nat} {Q : Unit → Shared → Prop} (hT : IsTrip s.heap T a b c)
    (h : ∀ h', h'.get? T = some { cls := .type "tuple", data := .seq ((#[a, b, c] : Array Value).setIfInBounds k x) } → Heap.SameBut T s.heap h' → Q () { s with heap := h' }) :
    wpAny (model prog w) A (updateSeq T (·.setIfInBounds k x)) Q E s := by
  refine wpAny_updateSeq hT rfl (h _ ?_ (Heap.SameBut.update ..))
  rw [Heap.get?_update_self _ hT rfl]
  simp [Obj.mapSeq]
variable {n l1 l2 l3 : Nat} {k : Nat} {xs ys zs : Array Value} {x y z a b c : Value}
/-- an item of each -/
theorem zip3_item {Q : Option Value → Shared → Prop} (g1 : l1 < n) (g2 : l2 < n) (g3 : l3 < n)
    (hz : IsZip s.heap (n + 5) (n + 3) (n + 4) .none) (hTI : IsTrip s.heap (n + 3) (.ref n) (.ref (n + 1)) (.ref (n + 2))) (hTO : IsTrip s.heap (n + 4) a b c)
    (h1 : s.heap.IsListIter n l1 k) (h2 : s.heap.IsListIter (n + 1) l2 k) (h3 : s.heap.IsListIter (n + 2) l3 k) (hl1 : s.heap.IsList l1 xs) (hl2 : s.heap.IsList l2 ys) (hl3 : s.heap.IsList l3 zs)
    (hx : xs[k]? = some x) (hy : ys[k]? = some y) (hzz : zs[k]? = some z)
    (hQ : ∀ h', IsZip h' (n + 5) (n + 3) (n + 4) (rawInt s.heap.objs.size) → IsTrip h' (n + 4) x y z → h'.IsListIter n l1 (k + 1) → h'.IsListIter (n + 1) l2 (k + 1) → h'.IsListIter (n + 2) l3 (k + 1) →
      IsTrip h' s.heap.objs.size x y z → h'.objs.size = s.heap.objs.size + 1 →
      (∀ c o, c ≠ n + 5 → c ≠ n + 4 → c ≠ n → c ≠ n + 1 → c ≠ n + 2 → s.heap.get? c = some o → h'.get? c = some o) → Q (some (.ref s.heap.objs.size)) { s with heap := h' }) :
    wpAny (model prog w) A (pyNext (.ref (n + 5))) Q E s := by
  have hT : s.TypeIs (.ref (n + 5)) "zip" := ⟨_, hz, rfl⟩
  have ne : ∀ {p q : Nat}, p < q → (p : Addr) ≠ q := fun h => Nat.ne_of_lt h
  have ne' : ∀ {p q : Nat}, q < p → (p : Addr) ≠ q := fun h => Nat.ne_of_gt h
  unfold pyNext
  refine wpAny_bind (wpAny_attempt (wpAny_callSpecial?_slot (name := Str.ofString "__next__") hT F.slot_zip_next
    (wpAny_call_entry F.slot_zip_next hT F.entry_zip_next (id ?_) (F.args_zip_next_1 _))))
  show wpAny _ _ (field (.ref (n + 5)) 2 >>= _) _ _ _
  refine wpAny_bind (wpAny_field hz rfl (x := .bool false) rfl ?_)
  show wpAny _ _ (field (.ref (n + 5)) 3 >>= _) _ _ _
  refine wpAny_bind (wpAny_field hz rfl (x := .ref (n + 3)) rfl ?_)
  refine wpAny_bind (wpAny_seqItems hTI rfl ?_)
  show wpAny _ _ (Builtin.SmallTypes.ownedTupleIsFree (.ref (n + 5)) >>= _) _ _ _
  refine wpAny_bind ?_
  unfold Builtin.SmallTypes.ownedTupleIsFree
  refine wpAny_bind (wpAny_field hz rfl (x := .none) rfl (wpAny_pure ?_))
  simp only [if_true]
  refine wpAny_bind (wpAny_rule ?_)
  refine wpAny_bind (wpAny_field hz rfl (x := .ref (n + 4)) rfl ?_)
  refine wpAny_bind (wpAny_setField_rec hz (by simp) fun ha hza sa => ?_)
  replace hza : IsZip ha (n + 5) (n + 3) (n + 4) .ellipsis := hza
  refine wpAny_bind ?_
  simp only [List.zipIdx_cons, List.zipIdx_nil, List.forIn_cons, List.forIn_nil]
  -- the first
  refine wpAny_bind (wpAny_bind (wpAny_onRaise ?_))
  show wpAny _ _ (Builtin.SmallTypes.nextOf (.ref n) >>= _) _ _ _
  refine wpAny_bind (wpAny_nextOf_list_item (h1.extBut sa.extBut (ne (by omega))) (hl1.extBut sa.extBut (ne (by omega))) hx fun hb h1b sb => wpAny_pure ?_)
  have Tb : IsTrip hb (n + 4) a b c := sb.extBut _ _ (ne' (by omega)) (sa.extBut _ _ (ne (by omega)) hTO)
  refine wpAny_bind (wpAny_seqItems Tb rfl ?_)
  refine wpAny_bind (updateSeq_trip Tb fun hc Tc sc => ?_)
  replace Tc : IsTrip hc (n + 4) x b c := Tc
  refine wpAny_bind (wpAny_letGo (wpAny_pure ?_))
  -- the second
  refine wpAny_bind (wpAny_bind (wpAny_onRaise ?_))
  show wpAny _ _ (Builtin.SmallTypes.nextOf (.ref (n + 1)) >>= _) _ _ _
  have upc : ∀ q o, q ≠ n + 5 → q ≠ n → q ≠ n + 4 → s.heap.get? q = some o → hc.get? q = some o := fun q o c1 c2 c3 e => sc.extBut _ _ c3 (sb.extBut _ _ c2 (sa.extBut _ _ c1 e))
  refine wpAny_bind (wpAny_nextOf_list_item (h2.at fun o e => upc _ o (ne (by omega)) (ne' (by omega)) (ne (by omega)) e) (hl2.at fun o e => upc _ o (ne (by omega)) (ne (by omega)) (ne (by omega)) e) hy fun hd h2d sd => wpAny_pure ?_)
  have Td : IsTrip hd (n + 4) x b c := sd.extBut _ _ (ne' (by omega)) Tc
  refine wpAny_bind (wpAny_seqItems Td rfl ?_)
  refine wpAny_bind (updateSeq_trip Td fun he Te se => ?_)
  replace Te : IsTrip he (n + 4) x y c := Te
  refine wpAny_bind (wpAny_letGo (wpAny_pure ?_))
  -- the third
  refine wpAny_bind (wpAny_bind (wpAny_onRaise ?_))
  show wpAny _ _ (Builtin.SmallTypes.nextOf (.ref (n + 2)) >>= _) _ _ _
  have upe : ∀ q o, q ≠ n + 5 → q ≠ n → q ≠ n + 1 → q ≠ n + 4 → s.heap.get? q = some o → he.get? q = some o := fun q o c1 c2 c3 c4 e => se.extBut _ _ c4 (sd.extBut _ _ c3 (upc q o c1 c2 c4 e))
  refine wpAny_bind (wpAny_nextOf_list_item (h3.at fun o e => upe _ o (ne (by omega)) (ne' (by omega)) (ne' (by omega)) (ne (by omega)) e) (hl3.at fun o e => upe _ o (ne (by omega)) (ne (by omega)) (ne (by omega)) (ne (by omega)) e) hzz fun hf h3f sf => wpAny_pure ?_)
  have Tf : IsTrip hf (n + 4) x y c := sf.extBut _ _ (ne' (by omega)) Te
  refine wpAny_bind (wpAny_seqItems Tf rfl ?_)
  refine wpAny_bind (updateSeq_trip Tf fun hg Tg sg => ?_)
  replace Tg : IsTrip hg (n + 4) x y z := Tg
  refine wpAny_bind (wpAny_letGo (wpAny_pure (wpAny_pure ?_)))
  -- the tuple
  refine wpAny_bind (wpAny_seqItems Tg rfl ?_)
  refine wpAny_bind (wpAny_newTuple ?_)
  have hsz : hg.objs.size = s.heap.objs.size := by rw [sg.1, sf.1, se.1, sd.1, sc.1, sb.1, sa.1]
  have zg : IsZip hg (n + 5) (n + 3) (n + 4) .ellipsis := sg.extBut _ _ (ne' (by omega)) (sf.extBut _ _ (ne' (by omega)) (se.extBut _ _ (ne' (by omega)) (sd.extBut _ _ (ne' (by omega)) (sc.extBut _ _ (ne' (by omega)) (sb.extBut _ _ (ne' (by omega)) hza)))))
  have upg : ∀ q o, q ≠ n + 5 → q ≠ n + 4 → q ≠ n → q ≠ n + 1 → q ≠ n + 2 → s.heap.get? q = some o → hg.get? q = some o := fun q o c1 c2 c3 c4 c5 e => sg.extBut _ _ c2 (sf.extBut _ _ c5 (upe q o c1 c3 c4 c2 e))
  have h1g : hg.IsListIter n l1 (k + 1) := ((((h1b.extBut sc.extBut (ne (by omega))).extBut sd.extBut (ne (by omega))).extBut se.extBut (ne (by omega))).extBut sf.extBut (ne (by omega))).extBut sg.extBut (ne (by omega))
  have h2g : hg.IsListIter (n + 1) l2 (k + 1) := ((h2d.extBut se.extBut (ne (by omega))).extBut sf.extBut (ne (by omega))).extBut sg.extBut (ne (by omega))
  have h3g : hg.IsListIter (n + 2) l3 (k + 1) := h3f.extBut sg.extBut (ne (by omega))
  have zlt : n + 5 < hg.objs.size := Heap.lt_size zg
  show wpAny _ _ (Builtin.SmallTypes.ownedTupleHandOut (.ref (n + 5)) (.ref hg.objs.size) >>= _) _ _ _
  refine wpAny_bind ?_
  unfold Builtin.SmallTypes.ownedTupleHandOut
  have zh : IsZip (hg.push { cls := .type "tuple", data := .seq #[x, y, z] }) (n + 5) (n + 3) (n + 4) .ellipsis := Heap.get?_push_of_some _ zg
  refine wpAny_bind (wpAny_setField_rec zh (by simp) fun hi zi si => ?_)
  replace zi : IsZip hi (n + 5) (n + 3) (n + 4) (rawInt hg.objs.size) := zi
  refine wpAny_setField_rec zi (by simp) fun hj zj sj => ?_
  replace zj : IsZip hj (n + 5) (n + 3) (n + 4) (rawInt hg.objs.size) := zj
  have up : ∀ q o, q ≠ n + 5 → hg.get? q = some o → hj.get? q = some o := fun q o c1 e => sj.extBut _ _ c1 (si.extBut _ _ c1 (Heap.get?_push_of_some _ e))
  have Tj : IsTrip hj hg.objs.size x y z := sj.extBut _ _ (Nat.ne_of_gt zlt) (si.extBut _ _ (Nat.ne_of_gt zlt) (Heap.get?_push_size _ rfl))
  have szj : hj.objs.size = hg.objs.size + 1 := by rw [sj.1, si.1, Heap.size_push]
  rw [hsz] at zj Tj szj
  refine wpAny_pure ⟨_, rfl, ?_⟩
  rw [hsz]
  refine wpAny_pure ?_
  exact hQ hj zj (up _ _ (ne (by omega)) Tg) (h1g.at fun o e => up _ o (ne (by omega)) e) (h2g.at fun o e => up _ o (ne (by omega)) e) (h3g.at fun o e => up _ o (ne (by omega)) e) Tj szj fun q o c1 c2 c3 c4 c5 e => up q o c1 (upg q o c1 c2 c3 c4 c5 e)
/-- the second list has come to its end -/
theorem zip3_end {Q : Option Value → Shared → Prop} (hh : A.handled = none) (g1 : l1 < n) (g2 : l2 < n) (g3 : l3 < n)
    (hz : IsZip s.heap (n + 5) (n + 3) (n + 4) .none) (hTI : IsTrip s.heap (n + 3) (.ref n) (.ref (n + 1)) (.ref (n + 2))) (hTO : IsTrip s.heap (n + 4) a b c)
    (h1 : s.heap.IsListIter n l1 k) (h2 : s.heap.IsListIter (n + 1) l2 k) (h3 : s.heap.IsListIter (n + 2) l3 k) (hl1 : s.heap.IsList l1 xs) (hl2 : s.heap.IsList l2 ys)
    (hx : xs[k]? = some x) (hy : ys[k]? = none)
    (hQ : ∀ h', (∀ c o, c ≠ n + 5 → c ≠ n + 4 → c ≠ n → c ≠ n + 1 → c ≠ n + 2 → s.heap.get? c = some o → h'.get? c = some o) → Q none { s with heap := h' }) :
    wpAny (model prog w) A (pyNext (.ref (n + 5))) Q E s := by
  have hT : s.TypeIs (.ref (n + 5)) "zip" := ⟨_, hz, rfl⟩
  have ne : ∀ {p q : Nat}, p < q → (p : Addr) ≠ q := fun h => Nat.ne_of_lt h
  have ne' : ∀ {p q : Nat}, q < p → (p : Addr) ≠ q := fun h => Nat.ne_of_gt h
  have fin : ∀ h' e, (∀ c o, c ≠ n + 5 → c ≠ n + 4 → c ≠ n → c ≠ n + 1 → c ≠ n + 2 → s.heap.get? c = some o → h'.get? c = some o) → (∃ o, h'.get? e = some o ∧ o.cls = .type "StopIteration") →
      wpAny (model prog w) A (do if (← isInstance (.ref e) (.type "StopIteration")) then pure none else throw (.ref e)) Q E { s with heap := h' } := fun h' e hk he => by
    obtain ⟨o, ho, hc⟩ := he
    refine wpAny_bind (wpAny_isInstance (T := "StopIteration") (b := true) ⟨o, ho, hc⟩ isSubtype_stop ?_)
    exact wpAny_pure (hQ _ hk)
  unfold pyNext
  refine wpAny_bind (wpAny_attempt (wpAny_callSpecial?_slot (name := Str.ofString "__next__") hT F.slot_zip_next
    (wpAny_call_entry F.slot_zip_next hT F.entry_zip_next (id ?_) (F.args_zip_next_1 _))))
  show wpAny _ _ (field (.ref (n + 5)) 2 >>= _) _ _ _
  refine wpAny_bind (wpAny_field hz rfl (x := .bool false) rfl ?_)
  show wpAny _ _ (field (.ref (n + 5)) 3 >>= _) _ _ _
  refine wpAny_bind (wpAny_field hz rfl (x := .ref (n + 3)) rfl ?_)
  refine wpAny_bind (wpAny_seqItems hTI rfl ?_)
  show wpAny _ _ (Builtin.SmallTypes.ownedTupleIsFree (.ref (n + 5)) >>= _) _ _ _
  refine wpAny_bind ?_
  unfold Builtin.SmallTypes.ownedTupleIsFree
  refine wpAny_bind (wpAny_field hz rfl (x := .none) rfl (wpAny_pure ?_))
  simp only [if_true]
  refine wpAny_bind (wpAny_rule ?_)
  refine wpAny_bind (wpAny_field hz rfl (x := .ref (n + 4)) rfl ?_)
  refine wpAny_bind (wpAny_setField_rec hz (by simp) fun ha hza sa => ?_)
  replace hza : IsZip ha (n + 5) (n + 3) (n + 4) .ellipsis := hza
  refine wpAny_bind ?_
  simp only [List.zipIdx_cons, List.zipIdx_nil, List.forIn_cons, List.forIn_nil]
  refine wpAny_bind (wpAny_bind (wpAny_onRaise ?_))
  show wpAny _ _ (Builtin.SmallTypes.nextOf (.ref n) >>= _) _ _ _
  refine wpAny_bind (wpAny_nextOf_list_item (h1.extBut sa.extBut (ne (by omega))) (hl1.extBut sa.extBut (ne (by omega))) hx fun hb h1b sb => wpAny_pure ?_)
  have Tb : IsTrip hb (n + 4) a b c := sb.extBut _ _ (ne' (by omega)) (sa.extBut _ _ (ne (by omega)) hTO)
  refine wpAny_bind (wpAny_seqItems Tb rfl ?_)
  refine wpAny_bind (updateSeq_trip Tb fun hc Tc sc => ?_)
  refine wpAny_bind (wpAny_letGo (wpAny_pure ?_))
  refine wpAny_bind (wpAny_bind (wpAny_onRaise ?_))
  show wpAny _ _ (Builtin.SmallTypes.nextOf (.ref (n + 1)) >>= _) _ _ _
  have upc : ∀ q o, q ≠ n + 5 → q ≠ n → q ≠ n + 4 → s.heap.get? q = some o → hc.get? q = some o := fun q o c1 c2 c3 e => sc.extBut _ _ c3 (sb.extBut _ _ c2 (sa.extBut _ _ c1 e))
  refine wpAny_bind (wpAny_nextOf_list_end hh (h2.at fun o e => upc _ o (ne (by omega)) (ne' (by omega)) (ne (by omega)) e) (hl2.at fun o e => upc _ o (ne (by omega)) (ne (by omega)) (ne (by omega)) e) hy fun hd e sd he => ?_)
  obtain ⟨oe, hoe, hce⟩ := he
  have zd : IsZip hd (n + 5) (n + 3) (n + 4) .ellipsis := sd _ _ (ne' (by omega)) (sc.extBut _ _ (ne' (by omega)) (sb.extBut _ _ (ne' (by omega)) hza))
  have hez : e ≠ n + 5 := fun x => by
    subst x
    rw [zd] at hoe
    cases hoe
    simp at hce
  refine wpAny_setField_rec zd (by simp) fun h5 _ s5 => ?_
  refine fin h5 e (fun q o c1 c2 c3 c4 c5 x => s5.extBut _ _ c1 (sd _ _ c4 (upc q o c1 c3 c2 x))) ⟨oe, s5.extBut _ _ hez hoe, hce⟩
abbrev z3H1 (h : Heap) (l1 : Addr) : Heap := h.push { cls := .type "list_iterator", data := .fields #[.ref l1, .int 0 0] }
abbrev z3H2 (h : Heap) (l1 l2 : Addr) : Heap := (z3H1 h l1).push { cls := .type "list_iterator", data := .fields #[.ref l2, .int 0 0] }
abbrev z3H3 (h : Heap) (l1 l2 l3 : Addr) : Heap := (z3H2 h l1 l2).push { cls := .type "list_iterator", data := .fields #[.ref l3, .int 0 0] }
abbrev z3H4 (h : Heap) (l1 l2 l3 : Addr) : Heap := (z3H3 h l1 l2 l3).push { cls := .type "tuple", data := .seq #[.ref h.objs.size, .ref (z3H1 h l1).objs.size, .ref (z3H2 h l1 l2).objs.size] }
abbrev z3H5 (h : Heap) (l1 l2 l3 : Addr) : Heap := (z3H4 h l1 l2 l3).push { cls := .type "tuple", data := .seq #[.none, .none, .none] }
abbrev z3H6 (h : Heap) (l1 l2 l3 : Addr) : Heap := (z3H5 h l1 l2 l3).push { cls := .type "zip", data := .fields #[.none, .bool false, .bool false, .ref (z3H3 h l1 l2 l3).objs.size, .ref (z3H4 h l1 l2 l3).objs.size] }
theorem meets_zip_new3 (l1 l2 l3 : Addr) (xs ys zs : Array Value) :
    Meets (Builtin.«zip.__new__» ⟨[.type "zip", .ref l1, .ref l2, .ref l3], []⟩) (fun _ R s => s.heap.IsList l1 xs ∧ s.heap.IsList l2 ys ∧ s.heap.IsList l3 zs ∧
      R (.ok (.ret (.ref (z3H5 s.heap l1 l2 l3).objs.size))) { s with heap := z3H6 s.heap l1 l2 l3 }) :=
  .of_wp fun prog w A R s h => by
    obtain ⟨hp, g, d, tk, os⟩ := s
    obtain ⟨hl1, hl2, hl3, h⟩ := h
    have hsub := sub_zip
    have hL1 : Heap.IsList (Shared.heap ⟨hp, g, d, tk, os⟩) l1 xs := hl1
    have hL2 : Heap.IsList (Shared.heap ⟨hp.push { cls := .type "list_iterator", data := .fields #[.ref l1, .int 0 0] }, g, d, tk, os⟩) l2 ys := Heap.IsList.push hl2 _
    have hL3 : Heap.IsList (Shared.heap ⟨(hp.push { cls := .type "list_iterator", data := .fields #[.ref l1, .int 0 0] }).push { cls := .type "list_iterator", data := .fields #[.ref l2, .int 0 0] }, g, d, tk, os⟩) l3 zs := Heap.IsList.push (Heap.IsList.push hl3 _) _
    wp_walk using wpAny_pyIter_list hL1, wpAny_pyIter_list hL2, wpAny_pyIter_list hL3
    exact ⟨_, rfl, h⟩
theorem call_zip_3 {l1 l2 l3 : Addr} {xs ys zs : Array Value} {Q : Value → Shared → Prop} (hl1 : s.heap.IsList l1 xs) (hl2 : s.heap.IsList l2 ys) (hl3 : s.heap.IsList l3 zs)
    (h : ∀ h', IsZip h' (s.heap.objs.size + 5) (s.heap.objs.size + 3) (s.heap.objs.size + 4) .none → IsTrip h' (s.heap.objs.size + 3) (.ref s.heap.objs.size) (.ref (s.heap.objs.size + 1)) (.ref (s.heap.objs.size + 2)) →
      IsTrip h' (s.heap.objs.size + 4) .none .none .none → h'.IsListIter s.heap.objs.size l1 0 → h'.IsListIter (s.heap.objs.size + 1) l2 0 → h'.IsListIter (s.heap.objs.size + 2) l3 0 →
      (∀ c o, s.heap.get? c = some o → h'.get? c = some o) → Q (.ref (s.heap.objs.size + 5)) { s with heap := h' }) :
    wpAny (model prog w) A (call (.type "zip") [.ref l1, .ref l2, .ref l3]) Q E s := by
  refine callType_new F.called_zip (by decide) (typeCall_zip_3 _ _ _) (newCall_zip_3 _ _ _) (fun obj => args_object_init_4 obj _ _ _) F.entry_zip_new
    (meets_zip_new3 l1 l2 l3 xs ys zs) ⟨hl1, hl2, hl3, ?_⟩
  have z1 : (z3H1 s.heap l1).objs.size = s.heap.objs.size + 1 := Heap.size_push ..
  have z2 : (z3H2 s.heap l1 l2).objs.size = s.heap.objs.size + 2 := by rw [Heap.size_push, z1]
  have z3 : (z3H3 s.heap l1 l2 l3).objs.size = s.heap.objs.size + 3 := by rw [Heap.size_push, z2]
  have z4 : (z3H4 s.heap l1 l2 l3).objs.size = s.heap.objs.size + 4 := by rw [Heap.size_push, z3]
  have z5 : (z3H5 s.heap l1 l2 l3).objs.size = s.heap.objs.size + 5 := by rw [Heap.size_push, z4]
  have g6 : (z3H6 s.heap l1 l2 l3).get? (z3H5 s.heap l1 l2 l3).objs.size = some _ := Heap.get?_push_size _ rfl
  have g5 : (z3H6 s.heap l1 l2 l3).get? (z3H4 s.heap l1 l2 l3).objs.size = some _ := Heap.get?_push_of_some _ (Heap.get?_push_size _ rfl)
  have g4 : (z3H6 s.heap l1 l2 l3).get? (z3H3 s.heap l1 l2 l3).objs.size = some _ := Heap.get?_push_of_some _ (Heap.get?_push_of_some _ (Heap.get?_push_size _ rfl))
  have g3 : (z3H6 s.heap l1 l2 l3).get? (z3H2 s.heap l1 l2).objs.size = some _ := Heap.get?_push_of_some _ (Heap.get?_push_of_some _ (Heap.get?_push_of_some _ (Heap.get?_push_size _ rfl)))
  have g2 : (z3H6 s.heap l1 l2 l3).get? (z3H1 s.heap l1).objs.size = some _ := Heap.get?_push_of_some _ (Heap.get?_push_of_some _ (Heap.get?_push_of_some _ (Heap.get?_push_of_some _ (Heap.get?_push_size _ rfl))))
  have g1 : (z3H6 s.heap l1 l2 l3).get? s.heap.objs.size = some _ := Heap.get?_push_of_some _ (Heap.get?_push_of_some _ (Heap.get?_push_of_some _ (Heap.get?_push_of_some _ (Heap.get?_push_of_some _ (Heap.get?_push_size _ rfl)))))
  show _ ∧ _
  rw [z3, z4, z5] at g6
  rw [z1, z2, z3] at g4
  rw [z4] at g5
  rw [z2] at g3
  rw [z1] at g2
  rw [z5]
  exact ⟨⟨_, g6, rfl⟩, h _ g6 g4 g5 ⟨_, g1, rfl, rfl⟩ ⟨_, g2, rfl, rfl⟩ ⟨_, g3, rfl, rfl⟩ fun c o x =>
    Heap.get?_push_of_some _ (Heap.get?_push_of_some _ (Heap.get?_push_of_some _ (Heap.get?_push_of_some _ (Heap.get?_push_of_some _ (Heap.get?_push_of_some _ x)))))⟩
end
/-- the lists at a, b, c; the first is longer -/
def Itz3 (K : PySem.W.Frag) (a b c : Addr) : It :=
  ⟨fun i H => ∃ (xs ys zs : List V) (x y z : V), SqL K H a xs ∧ SqL K H b ys ∧ SqL K H c zs ∧ xs[i]? = some x ∧ ys[i]? = some y ∧ zs[i]? = some z,
    fun i H v H' => ∃ T x y z, v = .ref T ∧ H T = none ∧ H' = upd H T (.tup [x, y, z]) ∧ (∀ xs, SqL K H a xs → xs[i]? = some x) ∧ (∀ ys, SqL K H b ys → ys[i]? = some y) ∧ ∀ zs, SqL K H c zs → zs[i]? = some z,
    fun i H => ∃ xs ys : List V, SqL K H a xs ∧ SqL K H b ys ∧ i < xs.length ∧ ys.length ≤ i⟩
theorem turn_zip3 {P : Program} {w : World} {K : PySem.W.Frag} {elts : List Expr} {kk : Nat} {tpos : Pos} {a b c n : Nat} (ga : a < n) (gb : b < n) (gc : c < n) :
    Turn P w K (.Tuple elts kk tpos) (Itz3 K a b c) [n, n + 1, n + 2, n + 3, n + 4, n + 5] (n + 5) (fun i h => IsZip h (n + 5) (n + 3) (n + 4) .none ∧ IsTrip h (n + 3) (.ref n) (.ref (n + 1)) (.ref (n + 2)) ∧ (∃ x y z, IsTrip h (n + 4) x y z) ∧ h.IsListIter n a i ∧ h.IsListIter (n + 1) b i ∧ h.IsListIter (n + 2) c i) where
  mem := by simp
  obj := fun i h st q hq => by
    obtain ⟨hz, hTI, ⟨x, y, z, hTO⟩, ⟨o1, e1, _, d1⟩, ⟨o2, e2, _, d2⟩, ⟨o3, e3, _, d3⟩⟩ := st
    have e' : q = n ∨ q = n + 1 ∨ q = n + 2 ∨ q = n + 3 ∨ q = n + 4 ∨ q = n + 5 := by simpa using hq
    rcases e' with e | e | e | e | e | e
    · rw [e]; exact ⟨o1, e1, fun v q => by rw [d1] at q; cases q⟩
    · rw [e]; exact ⟨o2, e2, fun v q => by rw [d2] at q; cases q⟩
    · rw [e]; exact ⟨o3, e3, fun v q => by rw [d3] at q; cases q⟩
    · rw [e]; exact ⟨_, hTI, fun v q => nomatch q⟩
    · rw [e]; exact ⟨_, hTO, fun v q => nomatch q⟩
    · rw [e]; exact ⟨_, hz, fun v q => nomatch q⟩
  keep := fun i h h' st k => by
    obtain ⟨hz, hTI, ⟨x, y, z, hTO⟩, h1, h2, h3⟩ := st
    exact ⟨k _ (by simp) _ hz, k _ (by simp) _ hTI, ⟨x, y, z, k _ (by simp) _ hTO⟩, h1.at fun o q => k _ (by simp) o q, h2.at fun o q => k _ (by simp) o q, h3.at fun o q => k _ (by simp) o q⟩
  item := by
    intro X hP hw hK hc i pins s σ H E I hf st hg
    subst hP hw hK
    obtain ⟨hz, hTI, ⟨x0, y0, z0, hTO⟩, h1, h2, h3⟩ := st
    obtain ⟨xs, ys, zs, x, y, z, hqx, hqy, hqz, hx, hy, hzz⟩ := hg
    obtain ⟨its, rv, p, _⟩ := I.list hqx
    obtain ⟨its2, rv2, p2, _⟩ := I.list hqy
    obtain ⟨its3, rv3, p3, _⟩ := I.list hqz
    obtain ⟨u, hu, ru⟩ := rv.get hx
    obtain ⟨u2, hu2, ru2⟩ := rv2.get hy
    obtain ⟨u3, hu3, ru3⟩ := rv3.get hzz
    have hzl : n + 5 < s.heap.objs.size := Heap.lt_size hz
    refine zip3_item ga gb gc hz hTI hTO h1 h2 h3 p.isList p2.isList p3.isList (x := u) (y := u2) (z := u3) (by simpa using hu) (by simpa using hu2) (by simpa using hu3) fun h' z' TO' h1' h2' h3' hT hsz hk => ?_
    refine ⟨_, rfl, wpAny_letOwnedTupleGo_zip (s := { s with heap := h' }) z' fun h'' z'' sb => ?_⟩
    have hT2 : h''.get? s.heap.objs.size = some { cls := .type "tuple", data := .seq #[u, u2, u3] } := (sb.2 _ (Nat.ne_of_gt hzl)).trans hT
    have new : ObjOk X.prog X.w (upd H s.heap.objs.size (.tup [x, y, z])) h'' s.heap.objs.size (.tup [x, y, z]) :=
      ⟨by show 3 ≤ sizeLine; decide, [u, u2, u3], .cons ru (.cons ru2 (.cons ru3 .nil)), ⟨_, hT2, rfl, _, rfl⟩⟩
    have I1 : Inv X pins σ (upd H s.heap.objs.size (.tup [x, y, z])) { s with heap := h'' } :=
      I.turnedNew (t' := s.toks) (ch := [n, n + 1, n + 2, n + 3, n + 4, n + 5]) (fun q o hb e => (sb.2 q (fun q' => hb (by simp [q']))).trans (hk q o (fun q' => hb (by simp [q'])) (fun q' => hb (by simp [q'])) (fun q' => hb (by simp [q'])) (fun q' => hb (by simp [q'])) (fun q' => hb (by simp [q'])) e)) hf (Nat.le_refl _) new
    have ne : ∀ {p q : Nat}, p < q → (p : Addr) ≠ q := fun h => Nat.ne_of_lt h
    have ne' : ∀ {p q : Nat}, q < p → (p : Addr) ≠ q := fun h => Nat.ne_of_gt h
    refine ⟨.ref s.heap.objs.size, _, I1, rfl, ⟨_, x, y, z, rfl, I.hok.fresh (Nat.le_refl _), rfl, fun l hl => by rw [I.list_inj hl hqx]; exact hx, fun l hl => by rw [I.list_inj hl hqy]; exact hy, fun l hl => by rw [I.list_inj hl hqz]; exact hzz⟩, ⟨z'', ?_, ⟨u, u2, u3, ?_⟩, ?_, ?_, ?_⟩, fun q hcm => ?_⟩
    · exact (sb.2 _ (ne (by omega))).trans (hk _ _ (ne (by omega)) (ne (by omega)) (ne' (by omega)) (ne' (by omega)) (ne' (by omega)) hTI)
    · exact (sb.2 _ (ne (by omega))).trans TO'
    · exact h1'.at fun o q => (sb.2 _ (ne (by omega))).trans q
    · exact h2'.at fun o q => (sb.2 _ (ne (by omega))).trans q
    · exact h3'.at fun o q => (sb.2 _ (ne (by omega))).trans q
    · have hlt : q < s.heap.objs.size := by
        have e' : q = n ∨ q = n + 1 ∨ q = n + 2 ∨ q = n + 3 ∨ q = n + 4 ∨ q = n + 5 := by simpa using hcm
        have hle : ∀ q : Nat, (q = n ∨ q = n + 1 ∨ q = n + 2 ∨ q = n + 3 ∨ q = n + 4 ∨ q = n + 5) → q ≤ n + 5 := fun q h => by omega
        exact Nat.lt_of_le_of_lt (hle q e') hzl
      rw [upd_ne (Nat.ne_of_lt hlt)]
      exact (hf q hcm).1
  done := by
    intro X hP hw hK hc i pins s σ H E I hf st hg
    subst hP hw hK
    obtain ⟨hz, hTI, ⟨x0, y0, z0, hTO⟩, h1, h2, h3⟩ := st
    obtain ⟨xs, ys, hqx, hqy, hi, hend⟩ := hg
    obtain ⟨its, rv, p, _⟩ := I.list hqx
    obtain ⟨its2, rv2, p2, _⟩ := I.list hqy
    have l1 := rv.length
    have l2 := rv2.length
    have hx : its.toArray[i]? = some (its[i]'(by omega)) := by simp
    exact zip3_end (I.ok.hd hc) ga gb gc hz hTI hTO h1 h2 h3 p.isList p2.isList hx (by simp; omega) fun h' hk => ⟨rfl, I.turnedL (t' := s.toks) (ch := [n, n + 1, n + 2, n + 3, n + 4, n + 5]) (fun q o hb e =>
      hk q o (fun q' => hb (by simp [q'])) (fun q' => hb (by simp [q'])) (fun q' => hb (by simp [q'])) (fun q' => hb (by simp [q'])) (fun q' => hb (by simp [q'])) e) hf⟩
  self := fun A i s Q E st h => wpAny_pyIter_zip st.1 h
def iZip3 (K : PySem.W.Frag) (ta : TA) : TI := fun σ H R => ta σ H fun vs H1 => ∃ a b c xs ys zs, vs = [.ref a, .ref b, .ref c] ∧ SqL K H1 a xs ∧ SqL K H1 b ys ∧ SqL K H1 c zs ∧ R (Itz3 K a b c) H1
theorem pi_zip3 {X : Cx} {e e2 e3 : Expr} {ta : TA} {p pos tpos : Pos} {elts : List Expr} {kk : Nat} (hg : Gl X "zip") (hm : X.mg "zip" = none) (ha : PA X [e, e2, e3] ta)
    (hs : starEach [e, e2, e3] X.env = (false, eval e X.env) :: starEach [e2, e3] X.env := by rfl) (hpl : (backTo pos (starEach [e2, e3] X.env)).any (·.1) = false := by rfl) :
    PI X (.Tuple elts kk tpos) (.Call (.Name "zip" p) [e, e2, e3] [] pos) (iZip3 X.K ta) := by
  refine ⟨fun pins s σ H R I h => ?_⟩
  refine Call_ (ld_blt I hg hm PyProof.Rows.boot_zip (PyProof.Rows.callWith_type1 (thn (ha.run pos pins s σ H _ I h) fun us s1 ⟨vs, H1, I1, r1, q1⟩ => ?_) hs hpl))
  obtain ⟨a, b, c, xs, ys, zs, ex, hqx, hqy, hqz, q⟩ := q1
  subst ex
  cases r1 with
  | cons r rr =>
    cases rr with
    | cons r' rr =>
      cases rr with
      | cons r'' rr =>
        cases rr
        cases r
        cases r'
        cases r''
        obtain ⟨its, rv, p1, _⟩ := I1.list hqx
        obtain ⟨its2, rv2, p2, _⟩ := I1.list hqy
        obtain ⟨its3, rv3, p3, _⟩ := I1.list hqz
        refine call_zip_3 p1.isList p2.isList p3.isList fun h' hz hTI hTO h1 h2 h3 hk => wpAny_pyIter_zip hz ?_
        have I2 : Inv X pins σ H1 { s1 with heap := h' } := I1.kept (t' := s1.toks) hk
        refine ⟨s1.heap.objs.size + 5, [s1.heap.objs.size, s1.heap.objs.size + 1, s1.heap.objs.size + 2, s1.heap.objs.size + 3, s1.heap.objs.size + 4, s1.heap.objs.size + 5], _, _, H1, rfl, I2, turn_zip3 p1.lt p2.lt p3.lt, ⟨hz, hTI, ⟨_, _, _, hTO⟩, h1, h2, h3⟩, fun q hcm => ?_, q⟩
        have e' : q = s1.heap.objs.size ∨ q = s1.heap.objs.size + 1 ∨ q = s1.heap.objs.size + 2 ∨ q = s1.heap.objs.size + 3 ∨ q = s1.heap.objs.size + 4 ∨ q = s1.heap.objs.size + 5 := by simpa using hcm
        have hle0 : ∀ m q : Nat, (q = m ∨ q = m + 1 ∨ q = m + 2 ∨ q = m + 3 ∨ q = m + 4 ∨ q = m + 5) → m ≤ q := fun m q h => by omega
        have hle : s1.heap.objs.size ≤ q := hle0 _ q e'
        exact I1.fpOk hle (I1.hok.fresh hle)
end My
set_option Elab.async false
set_option linter.all false
set_option maxRecDepth 100000
set_option maxHeartbeats 4000000
/-! a op b op c op d; try with several clauses that name the exception; loops over zip of three lists. -/
namespace My
open PySem PySem.Spec PyProof.Rows L2
section
variable {X : Cx} {a b c d : Expr} {pos : Pos} {ta tb tc td : TE}
def tChain3 (r r' r'' : R2) (ta tb tc td : TE) : TE := fun σ H Q => ta σ H fun x H1 => tb σ H1 fun y H2 => r x y H2 fun z H3 => ∃ k, z = .bl k ∧
  (if k = true then tc σ H3 fun w' H4 => r' y w' H4 fun z2 H5 => ∃ k2, z2 = .bl k2 ∧ (if k2 = true then td σ H5 fun v H6 => r'' w' v H6 Q else Q (.bl false) H5) else Q (.bl false) H3)
theorem pe_chain3 {op op' op'' : CmpOp} {r r' r'' : R2} (ho : OpR X (compareOp op) r) (ho' : OpR X (compareOp op') r') (ho'' : OpR X (compareOp op'') r'') (ha : PE X a ta) (hb : PE X b tb) (hc : PE X c tc) (hd : PE X d td)
    (hm : lastMarks [op, op', op''] [b, c, d] = false := by with_unfolding_all rfl) : PE X (.Compare a [op, op', op''] [b, c, d] pos) (tChain3 r r' r'' ta tb tc td) := by
  refine ⟨fun pins s σ H Q I h => ?_⟩
  refine Compare_chain (thn (ha.run pins s σ H _ I h) fun v s1 ⟨x, H1, I1, r1, q1⟩ => chain_link (thn (hb.run pins s1 σ H1 _ I1 q1) fun u s2 ⟨y, H2, I2, r2, q2⟩ =>
    thn (ho pins s2 σ H2 x y v u _ I2 r1 r2 q2) fun d s3 ⟨z, H3, I3, r3, k, e, q3⟩ => ?_)) hm
  subst e
  cases r3
  refine wpAny_truthy_bool ?_
  cases k with
  | false => exact ite_ff ⟨.bl false, H3, I3, rfl, q3⟩
  | true =>
    refine ite_tt (chain_link (thn (hc.run pins s3 σ H3 _ I3 q3) fun w' s4 ⟨z', H4, I4, r4, q4⟩ => thn (ho' pins s4 σ H4 y z' u w' _ I4 r2 r4 q4) fun d2 s5 ⟨z2, H5, I5, r5, k2, e2, q5⟩ => ?_))
    subst e2
    cases r5
    refine wpAny_truthy_bool ?_
    cases k2 with
    | false => exact ite_ff ⟨.bl false, H5, I5, rfl, q5⟩
    | true => exact ite_tt (chain_last (thn (hd.run pins s5 σ H5 _ I5 q5) fun w2 s6 ⟨z3, H6, I6, r6, q6⟩ => ho'' pins s6 σ H6 z' z3 w' w2 Q I6 r4 r6 q6))
theorem pt_chain3 {op op' op'' : CmpOp} {r r' r'' : R2} (ho : OpR X (compareOp op) r) (ho' : OpR X (compareOp op') r') (ho'' : OpR X (compareOp op'') r'') (ha : PE X a ta) (hb : PE X b tb) (hc : PE X c tc) (hd : PE X d td)
    (hm : lastMarks [op, op', op''] [b, c, d] = false := by with_unfolding_all rfl) : PT X (.Compare a [op, op', op''] [b, c, d] pos) (tTest (tChain3 r r' r'' ta tb tc td)) := by
  refine ⟨fun pins s σ H Q I h => ?_⟩
  refine isTrue_chain (thn (ha.run pins s σ H _ I h) fun v s1 ⟨x, H1, I1, r1, q1⟩ => test_link (thn (hb.run pins s1 σ H1 _ I1 q1) fun u s2 ⟨y, H2, I2, r2, q2⟩ =>
    thn (ho pins s2 σ H2 x y v u _ I2 r1 r2 q2) fun d s3 ⟨z, H3, I3, r3, k, e, q3⟩ => ?_)) hm
  subst e
  cases r3
  refine wpAny_truthy_bool ?_
  cases k with
  | false =>
    obtain ⟨k', e', q'⟩ := q3
    cases e'
    exact ite_ff ⟨H3, I3, q'⟩
  | true =>
    refine ite_tt (test_link (thn (hc.run pins s3 σ H3 _ I3 q3) fun w' s4 ⟨z', H4, I4, r4, q4⟩ => thn (ho' pins s4 σ H4 y z' u w' _ I4 r2 r4 q4) fun d2 s5 ⟨z2, H5, I5, r5, k2, e2, q5⟩ => ?_))
    subst e2
    cases r5
    refine wpAny_truthy_bool ?_
    cases k2 with
    | false =>
      obtain ⟨k', e', q'⟩ := q5
      cases e'
      exact ite_ff ⟨H5, I5, q'⟩
    | true =>
      refine ite_tt (test_last (thn (hd.run pins s5 σ H5 _ I5 q5) fun w2 s6 ⟨z3, H6, I6, r6, q6⟩ => thn (ho'' pins s6 σ H6 z' z3 w' w2 _ I6 r4 r6 q6) fun d' s7 ⟨z4, H7, I7, r7, k4, e4, q7⟩ => ?_))
      subst e4
      cases r7
      exact wpAny_truthy_bool ⟨H7, I7, q7⟩
end
/-- a loop over zip of three lists, the first one longer by one -/
theorem for_zip3 {K : PySem.W.Frag} {a b c : Addr} {xs ys zs : List V} {g : TG} {tb : TS} {D : Ends} {σ : L2.St} {H : Hp} (hl : xs.length = ys.length + 1) (hl2 : zs.length = ys.length) (Pv : Nat → L2.St → Hp → Prop) (h0 : Pv 0 σ H) (hq : ∀ i σ H, Pv i σ H → SqL K H a xs ∧ SqL K H b ys ∧ SqL K H c zs)
    (hs : ∀ (i : Nat) (x y z : V) (T : Addr) (σ : L2.St) (H : Hp), xs[i]? = some x → ys[i]? = some y → zs[i]? = some z → Pv i σ H → H T = none → g (.ref T) σ (upd H T (.tup [x, y, z])) fun σ2 H2 => tb { D with nx := Pv (i + 1), ct := Pv (i + 1), bk := D.nx } σ2 H2) (hd : ∀ σ H, Pv ys.length σ H → D.nx σ H) :
    ∃ W : Nat → Nat → L2.St → Hp → Prop, (∃ m, W 0 m σ H) ∧ ∀ i m σ H, W i m σ H →
      ((Itz3 K a b c).stop i H ∧ D.nx σ H) ∨ ((Itz3 K a b c).go i H ∧ ∃ N : L2.St → Hp → Prop, (∀ σ' H', N σ' H' → ∃ m', m' < m ∧ W (i + 1) m' σ' H') ∧ ∀ v H', (Itz3 K a b c).yld i H v H' → g v σ H' fun σ2 H2 => tb { D with nx := N, ct := N, bk := D.nx } σ2 H2) := by
  refine ⟨fun i m σ H => m = ys.length - i ∧ i ≤ ys.length ∧ Pv i σ H, ⟨ys.length, rfl, Nat.zero_le _, h0⟩, ?_⟩
  rintro i m σ H ⟨rfl, hi, p⟩
  obtain ⟨qx, qy, qz⟩ := hq i σ H p
  by_cases hlt : i < ys.length
  · have hx : xs[i]? = some (xs[i]'(by omega)) := List.getElem?_eq_getElem (by omega)
    have hy : ys[i]? = some ys[i] := List.getElem?_eq_getElem hlt
    have hz : zs[i]? = some (zs[i]'(by omega)) := List.getElem?_eq_getElem (by omega)
    refine .inr ⟨⟨xs, ys, zs, _, _, _, qx, qy, qz, hx, hy, hz⟩, Pv (i + 1), fun σ' H' p' => ⟨ys.length - (i + 1), by omega, rfl, hlt, p'⟩, fun v H' y => ?_⟩
    obtain ⟨T, x, z, u, rfl, nT, rfl, fx, fy, fz⟩ := y
    exact hs i x z u T σ H (fx xs qx) (fy ys qy) (fz zs qz) p nT
  · have e : i = ys.length := by omega
    subst e
    exact .inl ⟨⟨xs, ys, qx, qy, by omega, Nat.le_refl _⟩, hd σ H p⟩
/-! ### several clauses, each with a name -/
def wAsN (K : PySem.W.Frag) (Wout : WX) (D : Ends) : List (Value × Nat × (Addr → Value → Option Addr → TS)) → WX
  | [] => Wout
  | (c, i, ts) :: r => fun cls d σ H =>
    ∃ b, PySem.W.exmOne K cls c = some b ∧ (b = true → ∀ a, H a = none → ts a cls d { nx := fun σ' H' => D.nx (σ'.set i none) H', rt := D.rt, bk := fun σ' H' => D.bk (σ'.set i none) H', ct := fun σ' H' => D.ct (σ'.set i none) H' } (σ.set i (some (.ref a))) H) ∧
      (b = false → wAsN K Wout D r cls d σ H)
inductive HdsAs (X : Cx) : List ExceptHandler → List (Value × Nat × (Addr → Value → Option Addr → TS)) → Prop
  | nil : HdsAs X [] []
  | cons {x n : Str} {c : Value} {i : Nat} {ts : Addr → Value → Option Addr → TS} {b₀ : Stmt} {suite : List Stmt} {np pos' : Pos} {hds : List ExceptHandler} {l : List (Value × Nat × (Addr → Value → Option Addr → TS))} (hi : X.N[i]? = some n) (hln : X.env.kindOf n = some .local) (hc : Names X x c)
      (hsu : ∀ (a : Addr) (oe : Obj) (cls : Value) (d : Option Addr) (pn : List (Addr × Obj)), Zc cls d oe → (∃ vs, oe.data = .fields vs) → PSs (X.suite a ((a, oe) :: pn)) (b₀ :: suite) (ts a cls d)) (r : HdsAs X hds l) :
      HdsAs X (.ExceptHandler (some (.Name x np)) (some n) (b₀ :: suite) pos' :: hds) ((c, i, ts) :: l)
section
variable {X : Cx} {body : List Stmt} {h₀ : ExceptHandler} {hds : List ExceptHandler} {l : List (Value × Nat × (Addr → Value → Option Addr → TS))} {pos : Pos} {tb : WX → TS} {Wout : WX}
theorem ps_try_asN (hs : X.stack = X.env :: X.outer) (hf : X.env.frame = some X.env.locals) (hN : X.N.Nodup) (tk : Takes X Wout)
    (hb : ∀ (W : WX) (pn : List (Addr × Obj)) (xe : Value → Shared → Prop), Takes (X.tr pn xe) W → PassesOwn (model X.prog X.w) X.A X.env xe → PSs (X.tr pn xe) body (tb W))
    (hh : HdsAs X (h₀ :: hds) l) : PS X (.Try body (h₀ :: hds) [] [] pos) (fun D σ H => tb (wAsN X.K Wout D l) D σ H) := by
  refine ⟨fun pins s σ H D I h => ?_⟩
  have ok := I.ok
  have hfr : X.A.frames = some (X.env :: X.outer) := by rw [ok.frames, hs]
  refine wpAny_Try_except ?_
  refine wpAny_mono ((hb (wAsN X.K Wout D l) (X.pn ++ pins) (fun e s₁ => wpAny (model X.prog X.w) X.A (noteFrame e X.env) (fun _ s₂ => wpAny (model X.prog X.w) X.A (setFlight e none) (fun _ s₃ =>
    wpAny (model X.prog X.w) X.A (handleBy e X.env (h₀ :: hds)) (SP X pins D) X.xe s₃) X.xe s₂) X.xe s₁) (fun u s' xx => ?_) PassesOwn.looking).run [] s σ H D (I.toTry _) h) (fun f s1 hsp => ?_) (fun e s1 he => he)
  · obtain ⟨a, B, sI, pins', σ', H', cls, d, rfl, J', nb, up, sky, na, os, ag, w⟩ := xx
    have J : Inv X pins σ' H' sI := J'.ofTry ok
    have sky' : Sky B (X.env :: X.outer) a (Zc cls d) X.env.locals s'.heap := by rw [← hs]; exact sky
    show wpAny (model X.prog X.w) X.A (noteFrame (.ref a) X.env) _ _ _
    refine Sky.land Zc.steady hfr hf sky' fun h3 fl3 up3 => ?_
    have J3 : Inv X pins σ' H' { s' with heap := h3 } := J.landed nb fl3.1 (up.trans up3) os ag
    obtain ⟨oe3, vs3, he3, hz3, hd3⟩ := fl3.there
    have notFr : ∀ {h : Heap} {o : Obj} {vs : Array Value}, h.FunFrames B (X.env :: X.outer) → h.get? a = some o → o.data = .fields vs → a ∉ frs (X.env :: X.outer) := fun {h o vs} ff e dd hm => by
      obtain ⟨_, o', e', hnf⟩ := ff.mem hm
      rw [e] at e'
      cases e'
      exact hnf _ dd
    have nfr := notFr fl3.2.2.1 he3 hd3
    have nL : a ≠ X.env.locals := fun z => nfr (List.mem_filterMap.mpr ⟨X.env, List.mem_cons_self, by rw [hf, z]⟩)
    have nF : a ∉ X.fs := fun hm => by
      obtain ⟨e, he, q⟩ := List.mem_filterMap.mp hm
      exact nfr (List.mem_filterMap.mpr ⟨e, List.mem_cons_of_mem _ he, q⟩)
    have S3 := J3.suite he3 hd3 na nL nF
    have go : ∀ {hds' : List ExceptHandler} {l' : List (Value × Nat × (Addr → Value → Option Addr → TS))}, HdsAs X hds' l' → wAsN X.K Wout D l' cls d σ' H' →
        wpAny (model X.prog X.w) X.A (handleBy (.ref a) X.env hds') (SP X pins D) X.xe { s' with heap := h3 } := by
      intro hds' l' hk
      induction hk with
      | nil =>
        intro w
        refine wpAny_handleBy_nil ?_
        obtain ⟨k1, k2, k3, oe, vs, T, oT, ts', he, hz, hd, h1, hr⟩ := id fl3
        unfold PySem.passOn
        refine wpAny_bind (wpAny_field he hd h1 ?_)
        rw [if_neg (show ¬ ((Value.ref T == Value.none) = true) from by simp)]
        have fin : wpAny (model X.prog X.w) X.A (setFlight (.ref a) X.env.frame) (fun _ s4 => wpAny (model X.prog X.w) X.A (throw (.ref a) : Sem Flow) (SP X pins D) X.xe s4) X.xe { s' with heap := h3 } := by
          rw [hf]
          refine HandSPX.setFlight_upZ fl3 fun h4 hh4 up4 => wpAny_throw (tk _ _ ?_)
          exact ⟨a, B, sI, pins, σ', H', cls, d, rfl, J, nb, (up.trans up3).trans up4, .inr (.inr (by rw [hs]; exact hh4)), na, os, ag, w⟩
        first
          | exact wpAny_bind (wpAny_pure (wpAny_bind fin))
          | exact wpAny_bind fin
      | @cons x n c i ts b₀ suite np pos' hds2 l2 hi hln hc hsu r ih =>
        intro w
        obtain ⟨b, hb1, hyes, hno⟩ := w
        refine wpAny_handleBy_cons (codeAny_handlers_test ?_) (by intro q; cases q)
        have LT : PySem.W.Looks (model X.prog X.w) h3 (typeOf (.ref a)) cls := fun A Q E s k q => wpAny_typeOf_ref (k _ _ he3) (by rw [hz3.1]; exact q)
        have LM := PySem.W.exm_one (M := model X.prog X.w) (J3.kIn) LT hb1
        have test : ∀ {Q : Value → Shared → Prop} {E : Value → Shared → Prop}, Q c { s' with heap := h3 } → wpAny (model X.prog X.w) (X.A.mark (some (.ref a))) (eval (.Name x np) X.env) Q E { s' with heap := h3 } := fun {Q E} q => by
          obtain ⟨hg, hdbg, hm | ⟨hm, hv, hnn⟩⟩ := hc
          · exact ld_glob (X := X.suite a ((a, oe3) :: (X.pn ++ pins))) S3 hg hm q hdbg
          · exact ld_blt (X := X.suite a ((a, oe3) :: (X.pn ++ pins))) S3 hg hm hv q hnn hdbg
        refine test (LM.here ?_)
        cases b with
        | true =>
          refine codeAny_handlers_suite_as ?_
          refine HandSPX.lands_againZ fl3 fun h4 fl4 up4 => ?_
          have J4 : Inv X pins σ' H' { s' with heap := h4 } := J.landed nb fl4.1 ((up.trans up3).trans up4) os ag
          obtain ⟨oe4, vs4, he4, hz4, hd4⟩ := fl4.there
          have S4 := J4.suite he4 hd4 na nL nF
          refine store_ok (X := X.suite a ((a, oe4) :: (X.pn ++ pins))) (v := .ref a) S4 hN hi (.inl hln) rfl (fun s5 S5 => ?_) (.inr hln)
          refine wpAny_mono ((hsu a oe4 cls d (X.pn ++ pins) hz4 ⟨_, hd4⟩).run [] s5 _ H' _ S5 (hyes rfl a na)) (fun f s6 hsp => ?_) (fun _ _ z => False.elim z)
          have end_ : ∀ {σ6 : L2.St} {H6 : Hp} {Q : Shared → Prop}, Inv (X.suite a ((a, oe4) :: (X.pn ++ pins))) [] σ6 H6 s6 → (∀ s7, Inv X pins (σ6.set i none) H6 s7 → Q s7) →
              wpAny (model X.prog X.w) X.A (do bindName X.env n .none; unbindBehindTheSuite X.env n pos') (fun _ s7 => Q s7) X.xe s6 := fun {σ6 H6 Q} S6 hq => gone_ok (S6.unsuite ok) hN hi hln hq
          cases f with
          | next =>
            obtain ⟨σ6, H6, S6, q6⟩ := hsp
            exact end_ S6 fun s7 J7 => ⟨_, _, J7, q6⟩
          | brk =>
            obtain ⟨σ6, H6, S6, q6⟩ := hsp
            exact end_ S6 fun s7 J7 => ⟨_, _, J7, q6⟩
          | cont =>
            obtain ⟨σ6, H6, S6, q6⟩ := hsp
            exact end_ S6 fun s7 J7 => ⟨_, _, J7, q6⟩
          | ret u =>
            obtain ⟨v6, σ6, H6, S6, r6, q6⟩ := hsp
            exact end_ S6 fun s7 J7 => ⟨_, _, _, J7, r6, q6⟩
        | false =>
          show wpAny _ X.A (handleBy (.ref a) X.env hds2) _ _ _
          exact ih (hno rfl)
    exact go hh w
  · cases f with
    | next =>
      obtain ⟨σ', H', J', q⟩ := hsp
      exact wpAny_execs_nil ⟨σ', H', J'.ofTry ok, q⟩
    | brk =>
      obtain ⟨σ', H', J', q⟩ := hsp
      exact ⟨σ', H', J'.ofTry ok, q⟩
    | cont =>
      obtain ⟨σ', H', J', q⟩ := hsp
      exact ⟨σ', H', J'.ofTry ok, q⟩
    | ret u =>
      obtain ⟨v, σ', H', J', r, q⟩ := hsp
      exact ⟨v, σ', H', J'.ofTry ok, r, q⟩
end
end My
set_option Elab.async false
set_option linter.all false
set_option maxRecDepth 100000
set_option maxHeartbeats 4000000
/-! Defs under which repr may be asked: no repr is under way. -/
namespace My
open PySem PySem.Spec PyProof.Rows L2
structure FnOkG (P : Program) (w : World) (K : PySem.W.Frag) (mg : Str → Option Value) (base : Heap) (CX : CXT) (k : Nat) (f : Addr) (fd : FuncData) (ps : List Str) (sp : Sp) : Prop where
  len : ∀ vs H Q E, sp vs H Q E → vs.length = ps.length
  run : ∀ (A : Around) (outer : List Env) (s : Shared) (H : Hp) (args : Args) (us : List Value) (vs : List V) (Q : VK) (E : XK), Room k A → A.guards = some [] → Env0 P w K mg base A outer s H → BindsTo s fd args (ps.zip us) → Vals vs us → sp vs H Q E →
    codeAny (model P w) A (.call (.ref f) args) (CR CX outer P w H s Q E) s
theorem fn_ofG {CX : CXT} {P : Program} {w : World} {K : PySem.W.Frag} {mg : Str → Option Value} {base : Heap} {k : Nat} {f : Addr} {name qual : Str} {params : Arguments} {body : List Stmt} {scope : Scope} {dV kV doc pm cdv ct oc : Value} {an od : Option Addr}
    {osl : Array (Option Value)} {N ps : List Str} {sp : Sp} (lk : K.lookup f = some ⟨oc, od, .func (PySem.W.fnOf name qual params body scope dV kV doc pm an cdv ct), osl⟩) (hcd : PySem.W.codeIn K cdv qual = true) (S : FnScope N ps scope)
    (len : ∀ vs H Q E, sp vs H Q E → vs.length = ps.length)
    (hbody : ∀ (A : Around) (outer : List Env) (s : Shared) (H : Hp) (vs : List V) (Q : VK) (E : XK), Room k (A.deeper (envOfC qual scope s.heap.objs.size f cdv)) → A.guards = some [] → sp vs H Q E →
      ∃ t, PSs (cxOf CX P w K mg base N qual scope f cdv A outer s H E) body t ∧ t { nx := fun _ H' => Q .non H', rt := Q } (start N vs) H) :
    FnOkG P w K mg base CX (k + 1) f (PySem.W.fnOf name qual params body scope dV kV doc pm an cdv ct) ps sp := by
  refine ⟨len, fun A outer s H args us vs Q E hr hg e0 hb r hsp => ?_⟩
  have hl := len _ _ _ _ hsp
  have KX : K.In s.heap := e0.mod.kin.keeps fun b o e => (e0.bs b o e).1
  have lim : s.heap.NoLimit := e0.mod.nolimit.keeps fun b o e => (e0.bs b o e).1
  refine codeAny_call_function hr.depth (KX _ _ lk) rfl S.co S.gen rfl (PySem.W.codeRec_of KX hcd) (hb _ _ _ _ ?_)
  refine wpAny_newFunctionEnv_cells S.kind (fun ⟨n, v⟩ hy => ?_) fun env he s1 x => ?_
  · rcases S.par n (List.of_mem_zip hy).1 with q | q
    · exact .inl q
    · exact .inr ⟨q, PySem.W.cellsFrom_some _ _ _ (.inl q)⟩
  subst he
  refine ⟨lim.keeps x.toInCall.keep, codeAny_func ?_⟩
  obtain ⟨t, ht, hq⟩ := hbody A outer s H vs Q E (hr.deeper _) hg hsp
  have I : Inv (cxOf CX P w K mg base N qual scope f cdv A outer s H E) [] (start N vs) H s1 := inv_start S hr.hd e0 hl r x
  refine wpAny_mono (ht.run [] s1 (start N vs) H _ I hq) (fun fl s' hs => ?_) fun e s' hs => hs
  cases fl with
  | ret u =>
    obtain ⟨v, σ', H', J, rv, q⟩ := hs
    exact ⟨v, H', J.os, J.bare, J.base, J.hok, rv, q⟩
  | next =>
    obtain ⟨σ', H', J, q⟩ := hs
    exact ⟨.non, H', J.os, J.bare, J.base, J.hok, rfl, q⟩
  | brk =>
    obtain ⟨_, _, _, q⟩ := hs
    exact False.elim q
  | cont =>
    obtain ⟨_, _, _, q⟩ := hs
    exact False.elim q
section
variable {P : Program} {w : World} {K : PySem.W.Frag} {mg : Str → Option Value} {base : Heap}
theorem _root_.L2.Fun.okG {x qual : Str} {st : Stmt} {f : Addr} {fd : FuncData} {N ps : List Str} {k : Nat} {sp : Sp} (F : Fun K x qual st f fd) (S : FnScope N ps (defScope st)) (len : ∀ vs H Q E, sp vs H Q E → vs.length = ps.length)
    (hbody : ∀ (cdv : Value) (A : Around) (outer : List Env) (s : Shared) (H : Hp) (vs : List V) (Q : VK) (E : XK), Room k (A.deeper (envOfC qual (defScope st) s.heap.objs.size f cdv)) → A.guards = some [] → sp vs H Q E →
      ∃ t, PSs (cxOf CX0 P w K mg base N qual (defScope st) f cdv A outer s H E).nox (defBody st) t ∧ t { nx := fun _ H' => Q .non H', rt := Q } (start N vs) H) : FnOkG P w K mg base CX0 (k + 1) f fd ps sp := by
  obtain ⟨oc, od, kV, doc, pm, an, cdv, ct, osl, rfl, lk, hcd⟩ := F.ex
  refine fn_ofG lk hcd S len fun A outer s H vs Q E hr hg hsp => ?_
  obtain ⟨t, h, q⟩ := hbody cdv A outer s H vs Q E hr hg hsp
  exact ⟨t, h.nox, q⟩
end
section
variable {X : Cx} {CX : CXT} {k : Nat} {f : Addr} {fd : FuncData} {ps : List Str} {sp : Sp} {dvs : List V} {ds : List Value} {E : XK} {x : Str} {p pos : Pos} {e : Expr} {es : List Expr} {t : TA}
theorem pe_callG (F : FnOkG X.prog X.w X.K X.mg X.base CX k f fd ps sp) (hr : Room k X.A) (gd : X.A.guards = some []) (hg : Gl X x) (hm : X.mg x = some (.ref f)) (hk : PySem.W.keepIn X.K (.ref f) = true) (hb : Binds X.K fd ps ds) (hd : Vals dvs ds) (hx : Passes CX X E)
    (ha : PA X (e :: es) t) (hdb : (x == ("__debug__" : Str)) = false := by decide) (he : starEach (e :: es) X.env = (false, eval e X.env) :: starEach es X.env := by rfl) (hpl : (backTo pos (starEach es X.env)).any (·.1) = false := by rfl) :
    PE X (.Call (.Name x p) (e :: es) [] pos) (tCall sp dvs E t) := by
  refine ⟨fun pins s σ H Q I h => ?_⟩
  refine wpAny_Call_Name_kw (ld_glob I hg hm ?_ hdb)
  refine PySem.W.callWith_K (h₀ := X.base) I.ok.mod.kin hk (thn (ha.run pos pins s σ H _ I h) fun us s1 ⟨vs, H1, I1, r, q⟩ => ⟨I1.kIn, ?_⟩) he hpl
  have r2 : Vals (vs ++ dvs) (us ++ ds) := r.append hd
  have hl : (us ++ ds).length = ps.length := by rw [← r2.length]; exact F.len _ _ _ _ q
  refine wpAny_call (codeAny_mono (F.run X.A X.stack s1 H1 ⟨us, []⟩ (us ++ ds) (vs ++ dvs) Q E hr gd I1.env0 (hb s1 us I1.kIn hl) r2 q) fun r s' hq => ?_)
  cases r with
  | error e => exact hx pins σ H1 s1 e s' I1 hq
  | ok fl =>
    cases fl with
    | ret u => exact I1.after hq
    | next => exact False.elim hq
    | brk => exact False.elim hq
    | cont => exact False.elim hq
/-- repr of data without dicts -/
def rRepr (K : PySem.W.Frag) : List V → Hp → VK → Prop := fun vs H Q => ∃ (v : V) (d : PyData), vs = [v] ∧ Dp K H v d ∧ d.showable = true ∧ d.hasDict = false ∧ d.depth ≤ 60 ∧ d.shown.length ≤ sizeLine ∧ (∃ a, v = .ref a) ∧ Q (.str d.shown) H
theorem cr_repr (gd : X.A.guards = some []) (hu : X.A.units + 64 < cLine) : CallR X (.builtin "repr") (rRepr X.K) := by
  intro pins s σ H vs us Q I r h
  obtain ⟨v, d, rfl, hd, h1, h2, h3, h4, ⟨a, rfl⟩, q⟩ := h
  rw [Vals.ref1 r]
  obtain ⟨as, rd⟩ := Dp.reads I d (.ref a) (.ref a) hd rfl
  exact repr_of_reads' rd h1 (fun z => by rw [h2] at z; cases z) gd (by omega) (fun b o e => e) (fun h' u tk hk => ⟨.str d.shown, H, I.kept hk, ⟨_, rfl⟩, q⟩) h4
end
/-! ### the head: nothing of repr is under way where the law is called -/
theorem law_callG {P : Program} {w : World} {K : PySem.W.Frag} {mg mb : Str → Option Value} {CX : CXT} {k : Nat} {fa a : Addr} {fd : FuncData} {x : Str} {sp : Sp} {s₁ : Shared} {vs : List Value} {ns : List Int}
    (KX : K.In s₁.heap) (hns : s₁.heap.Ns mainGlobals mg) (hb : s₁.heap.Ns builtinsNs mb) (hbb : ∀ x : Str, x ≠ "__name__" → mb x = bootBuiltins x) (hlim : s₁.heap.NoLimit) (hg : s₁.gens = #[])
    (ha : s₁.heap.get? a = some { cls := .type "list", data := .seq vs.toArray }) (hi : IntsAre vs ns) (hl : ns.length ≤ sizeLine) (hr : Room k callerA)
    (F : ∀ base : Heap, K.In base → base.Ns mainGlobals mg → FnOkG P w K mg base CX k fa fd [x] sp) (hbind : ∀ (s : Shared) (u : Value), BindsTo s fd ⟨[u], []⟩ [(x, u)])
    (hsp : ∀ H : Hp, Only H → SqL K H a (ns.map V.int) → sp [.ref a] H (fun v _ => v = .bl true) fun _ _ _ => False)
    (hCX : ∀ H e s', CX [] H s₁ (fun _ _ _ => False) e s' → False) :
    codeAny (model P w) callerA (.call (.ref fa) ⟨[.ref a], []⟩) (fun r s' => r = .ok (.ret (.bool true)) ∧ OldK s₁.heap s'.heap ∧ s'.os = s₁.os ∧ AllBare s'.gens) s₁ := by
  have rv := vals_ints hi
  have lenV := hi.length
  have core : ∀ H : Hp, Only H → SqL K H a (ns.map V.int) → HOk P w H s₁.heap → (∀ b, H b ≠ none → b = a) → (H a ≠ none → K.lookup a = none) →
      codeAny (model P w) callerA (.call (.ref fa) ⟨[.ref a], []⟩) (fun r s' => r = .ok (.ret (.bool true)) ∧ OldK s₁.heap s'.heap ∧ s'.os = s₁.os ∧ AllBare s'.gens) s₁ := by
    intro H hO hS hok hA hK
    have free : ∀ {b : Addr} {P : Prop}, (∀ u, H b = some u → b = a → P → False) → P → H b = none := fun {b P} h p => by
      cases q : H b with
      | none => rfl
      | some u => exact (h u q (hA b (by rw [q]; simp)) p).elim
    have noA : ∀ {b : Addr} {o : Obj} {es : Array DictEntry} {ep : Nat}, s₁.heap.get? b = some o → o.data = .dict es ep → H b = none := fun {b o es ep} e d => free (P := True) (fun u q e' _ => by
      subst e'
      rw [ha] at e
      cases e
      cases d) trivial
    have nsK : ∀ {b : Addr} {m : Str → Option Value}, s₁.heap.Ns b m → (hidT s₁.heap H).Ns b m := fun {b m} ⟨o, es, ep, e, d, r⟩ => ⟨o, es, ep, hidT_get e (noA e d), d, r⟩
    have hKb : K.In (hidT s₁.heap H) := fun b o e => hidT_get (KX b o e) (free (P := True) (fun u q e' _ => by
      subst e'
      rw [hK (by rw [q]; simp)] at e
      cases e) trivial)
    have hM : Mod K mg (hidT s₁.heap H) := ⟨hKb, nsK hns, ⟨mb, nsK hb, hbb⟩, let ⟨mc, h1, h2⟩ := hlim; ⟨mc, nsK h1, h2⟩⟩
    have e0 : Env0 P w K mg (hidT s₁.heap H) callerA [] s₁ H := ⟨rfl, hM, fun b o e => of_hidT e, Nat.le_of_eq (hidT_size _ _), trivial, fun b hb => absurd (show b ∈ ([] : List Addr) from hb) (by simp), hok, .of_eq hg⟩
    refine codeAny_mono ((F _ hKb (nsK hns)).run callerA [] s₁ H ⟨[.ref a], []⟩ [.ref a] [.ref a] _ _ hr rfl e0 (hbind s₁ (.ref a)) (.cons rfl .nil) (hsp H hO hS)) fun r s' h => ?_
    cases r with
    | error e => exact (hCX H e s' h).elim
    | ok fl =>
      cases fl with
      | next => exact False.elim h
      | brk => exact False.elim h
      | cont => exact False.elim h
      | ret u =>
        obtain ⟨v, H', os, bare, un, hok', r', q⟩ := h
        have q' : v = .bl true := q
        subst q'
        obtain rfl : u = Value.bool true := r'
        refine ⟨rfl, OldK.of_keep fun b o e => ?_, os, bare⟩
        rcases hO b with z | ⟨ob, xs, z⟩
        · exact un.keep b o e z (by intro z; exact absurd (show b ∈ ([] : List Addr) from z) (by simp)) (by simp)
        · have z2 := un.frzs b ob _ z
          obtain ⟨e1, _⟩ := hok b _ z
          obtain ⟨e2, _⟩ := hok' b _ z2
          rw [e] at e1
          cases e1
          exact e2
  cases hk : K.lookup a with
  | some o =>
    have e := KX a o hk
    rw [ha] at e
    cases e
    exact core (fun _ => none) (fun _ => .inl rfl) (.inr ⟨_, vs.toArray, _, hk, rfl, rfl, rfl, by rw [List.size_toArray, lenV]; exact hl, by simpa using rv⟩) (fun b u z => nomatch (show (none : Option HO) = some u from z)) (fun b z => absurd rfl z) fun z => absurd rfl z
  | none =>
    refine core (fun b => if b = a then some (.frz { cls := .type "list", data := .seq vs.toArray } (.lst (ns.map V.int))) else none) (fun b => ?_) (.inl (.inr ⟨{ cls := .type "list", data := .seq vs.toArray }, if_pos rfl⟩)) (fun b u z => ?_) (fun b z => ?_) fun _ => hk
    · by_cases hb : b = a
      · exact .inr ⟨_, _, if_pos hb⟩
      · exact .inl (if_neg hb)
    · by_cases hb : b = a
      · have z' := (if_pos hb).symm.trans z
        cases z'
        subst hb
        exact ⟨ha, by rw [List.length_map]; exact hl, vs, _, rv, ha⟩
      · have z' := (if_neg hb).symm.trans z
        cases z'
    · by_cases hb : b = a
      · exact hb
      · exact absurd (if_neg hb) z
theorem walk_ofG {l : PySem.W.OpenLaw} {n k : Nat} {q : Program} {loose : List Str} {XP : (Str → Option Value) → Heap → Prop} {YP : World → Heap → Prop} {d : DefRec} {K : Params → PySem.W.Frag} {CX : World → CXT} {sp : World → Sp} {x : Str}
    (hn : l.most = some n) (hn2 : n ≤ sizeLine) (hdf : d.params.defaults = []) (hr : Room k callerA)
    (hY : ∀ (w : World) (h : Heap), YP w h → (K w.params).In h)
    (F : ∀ (w : World) (mg : Str → Option Value) (fa : Addr) (h : Heap), (K w.params).In h → h.Ns mainGlobals mg → mg d.name = some (.ref fa) →
      ∃ fd : FuncData, (∀ (s : Shared) (u : Value), BindsTo s fd ⟨[u], []⟩ [(x, u)]) ∧
        ∀ base : Heap, (K w.params).In base → base.Ns mainGlobals mg → FnOkG l.prog w (K w.params) mg base (CX w) k fa fd [x] (sp w))
    (hsp : ∀ (w : World) (H : Hp) (a : Addr) (ns : List Int), ns.length ≤ n → Only H → SqL (K w.params) H a (ns.map V.int) → sp w [.ref a] H (fun v _ => v = .bl true) fun _ _ _ => False)
    (hCX : ∀ (w : World) (H : Hp) (s : Shared) (e : Value) (s' : Shared), CX w [] H s (fun _ _ _ => False) e s' → False) :
    PySem.W.WalkO q loose XP YP l.row.toRowW d [] (fun f vs => PySem.call f vs) := by
  refine Att.attach_call hn hdf fun w s₀ s₁ mg mb fa o pm cd doc a vs ns G Y ho hd hcd hmg hobj hints hlen hg => ?_
  have KX := hY w _ Y
  obtain ⟨fd, hb, hF⟩ := F w mg fa _ KX G.T.g hmg
  exact law_callG KX G.T.g G.T.b G.T.builtins G.T.nolimit hg hobj hints (Nat.le_trans hlen hn2) hr hF hb (fun H hO hS => hsp w H a ns hlen hO hS) fun H e s' => hCX w H s₁ e s'
end My
set_option Elab.async false
set_option linter.all false
set_option maxRecDepth 100000
set_option maxHeartbeats 4000000
/-! sorted(d) of a dict whose keys are ints. -/
namespace My
open PySem PySem.Spec PyProof.Rows L2
theorem len_dict : typeLookup (.type "dict") "__len__" = pure (some (.builtin "dict.__len__")) := by rw [typeLookup_type, builtinLookup_eq_fast]; kernel_rfl
section
variable {prog : Program} {w : World} {A : Around} {E : Value → Shared → Prop} {s : Shared} {d : Addr} {od : Obj} {es : Array DictEntry} {ep : Nat}
theorem dict_hint (hT : s.TypeIs (.ref d) "dict") {Q : Bool → Shared → Prop} (h : Q false s) : wpAny (model prog w) A (Builtin.List.listLengthHint (.ref d)) Q E s := by
  unfold Builtin.List.listLengthHint
  refine wpAny_bind (wpAny_specialOf hT len_dict ?_)
  generalize hid : ("dict.__len__" : String) = id0
  wp_delta
  rw [show splitId id0 = some ("dict", "__len__") from by subst hid; decide +kernel]
  subst hid
  refine wpAny_bind (wpAny_isInstance (T := "dict") (b := true) hT (by rw [isSubtype_type]; kernel_rfl) ?_)
  refine wpAny_ite_split (fun hab => absurd hab (by decide)) (fun _ => ?_)
  refine wpAny_ite_split (fun _ => ?_) (fun hab => absurd (by decide +kernel) hab)
  refine wpAny_bind (wpAny_typeOf hT ?_)
  exact wpAny_pure h
/-- the loop that takes the keys -/
theorem loopD {R : Result → Shared → Prop} {S I : Addr} (hh : A.handled = none) (hSI : S ≠ I) (hSd : d ≠ S) (hId : d ≠ I) (hn : es.size ≤ sizeLine) (res : Value) {h₁ : Heap} (hdd : od.data = .dict es ep)
    (hR : ∀ h' c, (∀ b o, b ≠ S → b ≠ I → h₁.get? b = some o → h'.get? b = some o) → h'.get? S = some { cls := .type "list", dict := none, data := .seq (es.map (·.key)) c, slots := #[] } → R (.ok (.ret res)) { s with heap := h' }) :
    ∀ (k i : Nat) (h : Heap) (c : Nat) (acc : Array Value), es.size - i = k → i ≤ es.size → h.IsKeyIter I d i es.size ep → h.get? d = some od → (∀ b o, b ≠ S → b ≠ I → h₁.get? b = some o → h.get? b = some o) →
      h.get? S = some { cls := .type "list", dict := none, data := .seq acc c, slots := #[] } → acc.toList = (es.toList.take i).map (·.key) →
      codeAny (model prog w) A (.builtin "list.extend.loop" ⟨[.ref S, .ref I, res], []⟩) R { s with heap := h } := by
  intro k
  induction k with
  | zero =>
    intro i h c acc hk hi hst hD hkeep hS hacc
    refine codeAny_builtin PySem.F.entry_extend_loop ?_
    rw [Around.under_plainId PySem.F.plain_extend_loop _]
    show wpAny _ A.in1 (pyNext (.ref I) >>= _) _ _ _
    refine wpAny_bind (next_key_end (s := { s with heap := h }) (A := A.in1) hh hst hD hdd rfl (by omega) fun h' he => ?_)
    have ea : acc = es.map (·.key) := by
      apply Array.toList_inj.mp
      rw [hacc, List.take_of_length_le (by rw [Array.length_toList]; omega), Array.toList_map]
    rw [ea] at hS
    exact wpAny_pure (hR h' c (fun b o h1 h2 e => he b o h2 (hkeep b o h1 h2 e)) (he S _ hSI hS))
  | succ k ih =>
    intro i h c acc hk hi hst hD hkeep hS hacc
    have hlt : i < es.size := by omega
    have hsz : acc.size = i := by rw [← Array.length_toList, hacc, List.length_map, List.length_take, Array.length_toList]; omega
    refine codeAny_builtin PySem.F.entry_extend_loop ?_
    rw [Around.under_plainId PySem.F.plain_extend_loop _]
    show wpAny _ A.in1 (pyNext (.ref I) >>= _) _ _ _
    refine wpAny_bind (next_key_item (s := { s with heap := h }) (en := es[i]) hst hD hdd rfl (Array.getElem?_eq_getElem hlt) fun h' hst' hs' => ?_)
    have hS' := hs'.extBut S _ hSI hS
    have up : ∀ b o, b ≠ S → h'.get? b = some o → (h'.update S (Obj.mapSeq (·.push es[i].key))).get? b = some o := fun b o hb e => (Heap.get?_update_other _ _ (Ne.symm hb)).trans e
    show wpAny _ A.in1 (updateSeq S (·.push es[i].key) >>= _) _ _ _
    refine wpAny_bind ?_
    refine wpAny_updateSeq hS' rfl (wpAny_pure ⟨plainId_quiet PySem.F.plain_extend_loop _, ih (i + 1) _ _ (acc.push es[i].key) (by omega) hlt (hst'.at fun o e => up _ o hSI.symm e) (up d _ hSd (hs'.extBut d _ hId hD))
      (fun b o h1 h2 e => up b o h1 (hs'.extBut b _ h2 (hkeep b o h1 h2 e))) (Heap.get?_update_self _ hS' rfl) ?_⟩) (by rw [hsz]; omega) (by show (acc.push es[i].key).size ≤ sizeLine + 1; rw [Array.size_push, hsz]; omega)
    rw [Array.toList_push, hacc, List.take_add_one, Array.getElem?_toList, Array.getElem?_eq_getElem hlt, List.map_append]
    rfl
theorem extD {R : Result → Shared → Prop} {P2 : Program} {κ : Type} [DecidableEq κ] {knd : PySem.KeyKind prog w κ} {kvs : List (κ × Value)} (hh : A.handled = none) (hsys : (d == sysModules) = false) (hm : s.heap.DictAt knd d kvs ep) (ho : s.heap.get? d = some od) (hdd : od.data = .dict es ep) (hk : kvs.length = es.size) (S : Addr) (hSd : d ≠ S) (res : Value) (c₀ : Nat) (hS : s.heap.get? S = some { cls := .type "list", data := .seq #[] c₀ })
    (hR : ∀ h' c, (∀ b o, b ≠ S → s.heap.get? b = some o → h'.get? b = some o) → h'.get? S = some { cls := .type "list", dict := none, data := .seq (es.map (·.key)) c, slots := #[] } → R (.ok (.ret res)) { s with heap := h' }) (hn : es.size ≤ sizeLine) :
    wpAny (model prog w) A.in1 (Builtin.List.listExtendWith (.ref S) (.ref d) res)
      (fun fin s' => match fin with | .done f => R (.ok f) s' | .again c' => c'.quiet = true ∧ codeAny (model prog w) A c' R s') (fun e s' => R (.error e) s') s := by
  have hSI : S < s.heap.objs.size := Heap.lt_size hS
  have hdI : d < s.heap.objs.size := Heap.lt_size ho
  have hT : s.TypeIs (.ref d) "dict" := hm.dictOf.typeIs
  have key : ∀ (h : Heap) (c₁ : Nat), (∀ b o, b ≠ S → (s.heap.push { cls := .type "dict_keyiterator", data := .fields #[.ref d, .int 0 0, .int kvs.length 0, .int ep 0] }).get? b = some o → h.get? b = some o) →
      h.get? S = some { cls := .type "list", data := .seq #[] c₁ } → codeAny (model prog w) A (.builtin "list.extend.loop" ⟨[.ref S, .ref s.heap.objs.size, res], []⟩) R { s with heap := h } := by
    intro h c₁ hk' hS₁
    have hI := hk' s.heap.objs.size _ (Nat.ne_of_gt hSI) (Heap.get?_push_size _ rfl)
    rw [hk] at hI
    exact loopD (s := s) (h₁ := s.heap) hh (Nat.ne_of_lt hSI) hSd (Nat.ne_of_lt hdI) hn res hdd (fun h' c hk2 hS2 => hR h' c (fun b o hb e => hk2 b o hb (Nat.ne_of_lt (Heap.lt_size e)) e) hS2)
      es.size 0 h c₁ #[] (Nat.sub_zero _) (Nat.zero_le _) ⟨_, hI, rfl, rfl⟩ (hk' d _ hSd (Heap.get?_push_of_some _ ho)) (fun b o hb _ e => hk' b o hb (Heap.get?_push_of_some _ e)) hS₁ rfl
  unfold Builtin.List.listExtendWith
  refine wpAny_bind (wpAny_typeOf (T := "dict") hT ?_)
  have h1 : Builtin.List.listSameRef (.ref S) (.ref d) = false := by simp [Builtin.List.listSameRef, Ne.symm hSd]
  have h2 : (Value.type "dict" == Value.type "list") = false := by decide
  have h3 : (Value.type "dict" == Value.type "tuple") = false := by decide
  simp only [h1, h2, h3, Bool.or_false, Bool.false_eq_true, if_false]
  refine wpAny_bind (wpAny_pyIter_dict hsys hm ?_)
  have hS₁ := Heap.get?_push_of_some { cls := .type "dict_keyiterator", data := .fields #[.ref d, .int 0 0, .int kvs.length 0, .int ep 0] } hS
  refine wpAny_bind (wpAny_holding (dict_hint (let ⟨o, ho, hc⟩ := hT; ⟨o, Heap.get?_push_of_some _ ho, hc⟩) ?_))
  refine wpAny_ite_split (fun _ => ?_) (fun _ => wpAny_pure ⟨plainId_quiet PySem.F.plain_extend_loop _, key _ c₀ (fun b o _ e => e) hS₁⟩)
  refine wpAny_bind (wpAny_rule ?_)
  refine wpAny_bind ?_
  show wpAny _ _ (updateSeq S (·.push .none) >>= fun _ => updateSeq S (·.pop)) _ _ _
  refine wpAny_bind (wpAny_updateSeq hS₁ rfl ?_)
  have hS₂ := Heap.get?_update_self (Obj.mapSeq (·.push Value.none)) hS₁ rfl
  refine wpAny_updateSeq (hz := by seq_fits) hS₂ rfl ?_
  have hS₃ := Heap.get?_update_self (Obj.mapSeq (·.pop)) hS₂ rfl
  refine wpAny_pure ⟨plainId_quiet PySem.F.plain_extend_loop _, key _ _ (fun b o hb e => ?_) hS₃⟩
  exact (Heap.get?_update_other _ _ (Ne.symm hb)).trans ((Heap.get?_update_other _ _ (Ne.symm hb)).trans e)
theorem collectD {R : List Value → Shared → Prop} {κ : Type} [DecidableEq κ] {knd : PySem.KeyKind prog w κ} {kvs : List (κ × Value)} (hh : A.handled = none) (hsys : (d == sysModules) = false) (hm : s.heap.DictAt knd d kvs ep) (ho : s.heap.get? d = some od) (hdd : od.data = .dict es ep) (hk : kvs.length = es.size) (hn : es.size ≤ sizeLine)
    (h : ∀ (h' : Heap), (∀ b o, s.heap.get? b = some o → h'.get? b = some o) → s.heap.objs.size < h'.objs.size → R (es.toList.map (·.key)) { s with heap := h' }) :
    wpAny (model prog w) A (collect (.ref d)) R E s := by
  have hd : d < s.heap.objs.size := Heap.lt_size ho
  unfold collect
  refine wpAny_bind (wpAny_runValue (codeAny_builtin entry_proto_collect' ?_))
  rw [Around.under_plainId PySem.F.plain_proto_collect _]
  show wpAny _ A.in1 (newList [] >>= fun l => again (.builtin "list.__iadd__" ⟨[l, .ref d], []⟩)) _ _ s
  refine wpAny_bind (wpAny_newObj_type ?_)
  refine wpAny_pure ⟨plainId_quiet PySem.F.plain_list_iadd _, codeAny_builtin entry_list_iadd' ?_⟩
  rw [Around.under_plainId PySem.F.plain_list_iadd _]
  have hS₁ : (s.heap.push { cls := .type "list", data := .seq ([] : List Value).toArray }).get? s.heap.objs.size = some { cls := .type "list", data := .seq #[] } := Heap.get?_push_size _ rfl
  show wpAny _ A.in1 (Builtin.List.listExtendWith (.ref s.heap.objs.size) (.ref d) (.ref s.heap.objs.size)) _ _ _
  have key := extD (prog := prog) (w := w) (A := A) (P2 := prog) (s := { s with heap := s.heap.push { cls := .type "list", data := .seq ([] : List Value).toArray } }) (es := es) (ep := ep) (od := od) (knd := knd) (kvs := kvs)
    (R := fun (q : Result) (s' : Shared) => ∃ (h' : Heap) (c' : Nat), q = .ok (.ret (.ref s.heap.objs.size)) ∧ s' = { s with heap := h' } ∧
      (∀ b o, s.heap.get? b = some o → h'.get? b = some o) ∧ h'.get? s.heap.objs.size = some { cls := .type "list", dict := none, data := .seq (es.map (·.key)) c', slots := #[] })
    hh hsys (hm.push _) (Heap.get?_push_of_some _ ho) hdd hk s.heap.objs.size (Nat.ne_of_lt hd) (.ref s.heap.objs.size) 0 hS₁
    (fun h' c' hk2 hS' => ⟨h', c', rfl, rfl, fun b o e => hk2 b o (Nat.ne_of_lt (Heap.lt_size e)) (Heap.get?_push_of_some _ e), hS'⟩) hn
  have fin : ∀ (h' : Heap) (c' : Nat), (∀ b o, s.heap.get? b = some o → h'.get? b = some o) → h'.get? s.heap.objs.size = some { cls := .type "list", dict := none, data := .seq (es.map (·.key)) c', slots := #[] } → R (es.map (·.key)).toList { s with heap := h' } := fun h' c' hk2 hS' => by
    rw [Array.toList_map]
    exact h h' hk2 (Heap.lt_size hS')
  refine wpAny_mono key (fun fn s' x => ?_) fun e s' x => ?_
  · cases fn with
    | done f =>
      obtain ⟨h', c', e, rfl, hk2, hS'⟩ := x
      cases e
      show wpAny _ A (load s.heap.objs.size >>= _) _ _ _
      refine wpAny_bind (wpAny_load hS' ?_)
      exact wpAny_pure (fin h' c' hk2 hS')
    | again c₁ =>
      refine ⟨x.1, codeAny_mono x.2 fun q s₂ y => ?_⟩
      obtain ⟨h', c', rfl, rfl, hk2, hS'⟩ := y
      show wpAny _ A (load s.heap.objs.size >>= _) _ _ _
      refine wpAny_bind (wpAny_load hS' ?_)
      exact wpAny_pure (fin h' c' hk2 hS')
  · obtain ⟨_, _, e', _⟩ := x
    cases e'
end
section
variable {X : Cx}
theorem keys_of {P : Program} {w : World} : ∀ {es : List DictEntry} {kvs : List (Key × Value)}, Pairs (mixKind P w) es kvs → es.length = kvs.length ∧ ∀ ns : List Int, kvs.map (·.1) = ns.map Sum.inl → IntsAre (es.map (·.key)) ns
  | _, _, .nil => ⟨rfl, fun ns h => by
    cases ns with
    | nil => exact .nil
    | cons n ns => cases h⟩
  | _, _, .cons hk hv hp => by
    obtain ⟨h1, h2⟩ := keys_of hp
    refine ⟨by simp [h1], fun ns h => ?_⟩
    cases ns with
    | nil => cases h
    | cons n ns =>
      injection h with e1 e2
      dsimp only at e1
      rcases keyIs_shape hk with ⟨i, t, h3, h4⟩ | ⟨x, t, h3, h4⟩
      · rw [h3] at e1
        cases e1
        rw [List.map_cons, h4]
        exact .cons _ _ (h2 ns e2)
      · rw [h3] at e1
        cases e1
/-- sorted(d), the keys ints -/
def rSortedD : List V → Hp → VK → Prop := fun vs H Q => ∃ (a : Addr) (kvs : List (Key × V)) (ns : List Int), vs = [V.ref a] ∧ H a = some (.dK kvs) ∧ kvs.map (·.1) = ns.map Sum.inl ∧ ∀ ns' : List Int, ns'.Perm ns → ns'.Pairwise (· ≤ ·) → New (.lst (ns'.map V.int)) H Q
theorem cr_sortedD (hc : X.calm = true) : CallR X (.builtin "sorted") rSortedD := by
  intro pins s σ H vs us Q I r h
  obtain ⟨a, kvs, ns, rfl, ha, hk, q⟩ := h
  rw [Vals.ref1 r]
  obtain ⟨z, hsys, vs, rel, dd⟩ := dk_of I.hok ha
  obtain ⟨ep, dat⟩ := dd.dictAt
  obtain ⟨od, es, ho, hex, hdat, hks, hp, hnd⟩ := id dat
  obtain ⟨l1, hi⟩ := keys_of hp
  have ek : vs.map (·.1) = kvs.map (·.1) := by
    have : ∀ {kvs : List (Key × V)} {vs : List (Key × Value)}, KV kvs vs → vs.map (·.1) = kvs.map (·.1) := fun rel => by
      induction rel with
      | nil => rfl
      | cons h _ ih => rw [List.map_cons, List.map_cons, ih, h.1]
    exact this rel
  have hI := hi ns (ek.trans hk)
  have lk : vs.length = es.size := by rw [← l1, Array.length_toList]
  have lz : es.size ≤ sizeLine := by
    rw [← lk, ← List.length_map (f := (·.1)), ek, List.length_map]
    exact z
  refine Calls.call_function_entry kind_sorted plain_sorted entry_sorted (args_sorted1 _) ?_
  unfold Builtin.«sorted»
  refine wpAny_bind (m := checkCount "sorted" 1 1 _) (wpAny_pure ?_)
  refine wpAny_bind (collectD (A := X.A.in1) (I.ok.hd hc) hsys dat ho hdat lk lz fun h' hk' hlt => ?_)
  refine wpAny_bind (wpAny_newList ?_ (by rw [List.length_map, Array.length_toList]; exact lz))
  have hoL : (h'.push (seqObj "list" (es.toList.map (·.key)).toArray 0)).get? h'.objs.size = some (seqObj "list" (es.toList.map (·.key)).toArray 0) := Heap.get?_push_size _ rfl
  refine wpAny_bind (wpAny_holding (wpAny_call_entry PyProof.Rows.slot_list_sort ⟨_, hoL, rfl⟩ PyProof.Rows.entry_list_sort
    (SrtO.list_sort_ord SrtO.swo_int hoL (by rw [List.length_map, Array.length_toList]; exact lz) (fun h2 => SrtO.ints_sortable hI h2) fun out h1 h2 => ⟨_, rfl, ?_⟩) (PyProof.Rows.args_list_sort _)))
  obtain ⟨k1, k2, k3⟩ := SrtO.ints_out hI h1 h2
  obtain ⟨c, hc'⟩ := sortedHeap_at (vs := es.toList.map (·.key)) (out := out.toArray) hoL
  have hlen : ((out.map SrtO.iv).map V.int).length ≤ sizeLine := by
    rw [List.length_map, k2.length_eq, ← hI.length, List.length_map, Array.length_toList]
    exact lz
  have hle : s.heap.objs.size ≤ h'.objs.size := Nat.le_of_lt hlt
  have hn : H h'.objs.size = none := I.hok.fresh hle
  refine wpAny_pure ⟨_, rfl, .ref _, upd H h'.objs.size (.lst ((out.map SrtO.iv).map V.int)), I.laid (t' := s.toks) (fun b o e => ?_) hle ⟨hlen, out, c, vals_of_ints k1, hc'⟩, rfl, (q _ k2 k3).go _ hn⟩
  have e1 := hk' b o e
  have hb := Heap.lt_size e1
  rw [sortedHeap_old (Nat.ne_of_lt hb) (by rw [Heap.size_push]; exact Nat.lt_succ_of_lt hb)]
  exact Heap.get?_push_of_some _ e1
end
end My
set_option Elab.async false
set_option linter.all false
set_option maxRecDepth 100000
set_option maxHeartbeats 4000000
/-! dicts with int keys, as a list of keys and a function. -/
namespace My
open PySem L2
def kvsOf (ns : List Int) (g : Int → V) : List (Key × V) := ns.map fun n => (Sum.inl n, g n)
theorem kvs_keys (ns : List Int) (g : Int → V) : (kvsOf ns g).map (·.1) = ns.map Sum.inl := by
  unfold kvsOf
  rw [List.map_map]
  rfl
theorem kvs_len (ns : List Int) (g : Int → V) : (kvsOf ns g).length = ns.length := by
  unfold kvsOf
  rw [List.length_map]
theorem kvs_congr {ns : List Int} {g g' : Int → V} (h : ∀ n ∈ ns, g n = g' n) : kvsOf ns g = kvsOf ns g' := by
  unfold kvsOf
  exact List.map_congr_left fun n hn => by rw [h n hn]
theorem valV_kvs (g : Int → V) (k : Int) : ∀ ns : List Int, valV (kvsOf ns g) (Sum.inl k) = if k ∈ ns then some (g k) else none
  | [] => rfl
  | n :: ns => by
    show valV ((Sum.inl n, g n) :: kvsOf ns g) (Sum.inl k) = _
    by_cases e : n = k
    · subst e
      rw [valV_pos rfl, if_pos List.mem_cons_self]
    · rw [valV_neg (fun z => e (Sum.inl.inj z)), valV_kvs g k ns]
      by_cases m : k ∈ ns
      · rw [if_pos m, if_pos (List.mem_cons_of_mem _ m)]
      · rw [if_neg m, if_neg (fun z => by
          rcases List.mem_cons.mp z with z | z
          · exact e z.symm
          · exact m z)]
theorem any_kvs (g : Int → V) (k : Int) (ns : List Int) : ((kvsOf ns g).any fun kv => decide (kv.1 = Sum.inl k)) = decide (k ∈ ns) := by
  unfold kvsOf
  rw [List.any_map, Bool.eq_iff_iff, List.any_eq_true]
  constructor
  · rintro ⟨n, hn, e⟩
    have : n = k := by simpa using e
    subst this
    exact decide_eq_true hn
  · intro h
    exact ⟨k, of_decide_eq_true h, by simp⟩
theorem putK_kvs (g : Int → V) (k : Int) (v : V) (ns : List Int) : putK (kvsOf ns g) (Sum.inl k) v = kvsOf (if k ∈ ns then ns else ns ++ [k]) (fun n => if n = k then v else g n) := by
  unfold putK
  rw [any_kvs]
  by_cases m : k ∈ ns
  · rw [decide_eq_true m, if_pos rfl, if_pos m]
    unfold kvsOf
    rw [List.map_map]
    refine List.map_congr_left fun n hn => ?_
    show (if (Sum.inl n : Key) = Sum.inl k then ((Sum.inl n : Key), v) else (Sum.inl n, g n)) = (Sum.inl n, if n = k then v else g n)
    by_cases e : n = k
    · rw [if_pos (by rw [e]), if_pos e]
    · rw [if_neg (fun z => e (Sum.inl.inj z)), if_neg e]
  · rw [decide_eq_false m, if_neg Bool.false_ne_true, if_neg m]
    unfold kvsOf
    rw [List.map_append]
    congr 1
    · refine List.map_congr_left fun n hn => ?_
      have z : ¬ n = k := fun z => m (by rw [← z]; exact hn)
      show (Sum.inl n, g n) = (Sum.inl n, if n = k then v else g n)
      rw [if_neg z]
    · show [(Sum.inl k, v)] = [(Sum.inl k, if k = k then v else g k)]
      rw [if_pos rfl]
theorem dropK_kvs (g : Int → V) (k : Int) (ns : List Int) : dropK (kvsOf ns g) (Sum.inl k) = kvsOf (ns.filter fun n => decide (n ≠ k)) g := by
  unfold dropK kvsOf
  rw [List.filter_map]
  congr 1
  refine List.filter_congr fun n hn => ?_
  show decide ((Sum.inl n : Key) ≠ Sum.inl k) = decide (n ≠ k)
  rw [decide_eq_decide]
  exact ⟨fun h e => h (by rw [e]), fun h e => h (Sum.inl.inj e)⟩
theorem put_nodup {ns : List Int} (h : ns.Nodup) (k : Int) : (if k ∈ ns then ns else ns ++ [k]).Nodup := by
  split
  · exact h
  · rename_i m
    rw [List.nodup_append]
    exact ⟨h, by simp, fun a ha b hb => by
      have : b = k := by simpa using hb
      subst this
      exact fun e => m (e ▸ ha)⟩
theorem mem_put {ns : List Int} {k r : Int} : r ∈ (if k ∈ ns then ns else ns ++ [k]) ↔ r ∈ ns ∨ r = k := by
  split
  · rename_i m
    exact ⟨.inl, fun h => h.elim id fun e => e ▸ m⟩
  · simp
/-- two ascending lists without doubles of the same members are one -/
theorem asc_unique : ∀ {l m : List Int}, l.Pairwise (· < ·) → m.Pairwise (· < ·) → (∀ r, r ∈ l ↔ r ∈ m) → l = m
  | [], [], _, _, _ => rfl
  | [], y :: m, _, _, h => by
    have := (h y).mpr List.mem_cons_self
    cases this
  | x :: l, [], _, _, h => by
    have := (h x).mp List.mem_cons_self
    cases this
  | x :: l, y :: m, h1, h2, h => by
    obtain ⟨a1, a2⟩ := List.pairwise_cons.mp h1
    obtain ⟨b1, b2⟩ := List.pairwise_cons.mp h2
    have e : x = y := by
      rcases List.mem_cons.mp ((h x).mp List.mem_cons_self) with z | z
      · exact z
      · rcases List.mem_cons.mp ((h y).mpr List.mem_cons_self) with z' | z'
        · exact z'.symm
        · have := b1 x z
          have := a1 y z'
          omega
    subst e
    rw [asc_unique a2 b2 fun r => ?_]
    constructor
    · intro hr
      rcases List.mem_cons.mp ((h r).mp (List.mem_cons_of_mem _ hr)) with z | z
      · have := a1 r hr
        omega
      · exact z
    · intro hr
      rcases List.mem_cons.mp ((h r).mpr (List.mem_cons_of_mem _ hr)) with z | z
      · have := b1 r hr
        omega
      · exact z
theorem asc_of {ns ns' : List Int} (hp : ns'.Perm ns) (hs : ns'.Pairwise (· ≤ ·)) (hn : ns.Nodup) : ns'.Pairwise (· < ·) := by
  have hn' : ns'.Nodup := hp.nodup_iff.mpr hn
  exact (List.Pairwise.and hs hn').imp fun ⟨h1, h2⟩ => by omega
end My
namespace My
open PySem L2
/-- a dict comprehension over any walk -/
theorem dc_it {J : It} {n : Nat} {G : Hp → Prop} {Y : Nat → Hp → V → Hp → Prop} (w : Walk J n G Y) {g : TG} {tt : TT} {tk tv : TE} {vs : List Nat} {σ : L2.St} {H1 : Hp} {D : Addr} {Qd : Hp → Prop} (Pv : Nat → Hp → Prop) (h0 : Pv 0 (upd H1 D (.dK []))) (hG : ∀ i H, i ≤ n → Pv i H → G H)
    (hs : ∀ i x H H', i < n → Pv i H → Y i H x H' → g x (wipe σ vs) H' fun σ2 H2 => wipe σ2 vs = wipe σ vs ∧ tt σ2 H2 fun b H3 =>
      if b = true then tk σ2 H3 fun y H4 => tv σ2 H4 fun z H5 => ∃ kvs k, y = kV k ∧ H5 D = some (.dK kvs) ∧ kvs.length < sizeLine ∧ Pv (i + 1) (upd H5 D (.dK (putK kvs k z))) else Pv (i + 1) H3) (hd : ∀ H, Pv n H → Qd H) :
    ∃ W : Nat → Nat → Hp → Prop, (∃ m, W 0 m (upd H1 D (.dK []))) ∧ ∀ i m H, W i m H →
      (J.stop i H ∧ Qd H) ∨ (J.go i H ∧ ∃ Nx : Hp → Prop, (∀ H', Nx H' → ∃ m', m' < m ∧ W (i + 1) m' H') ∧ ∀ x H', J.yld i H x H' → g x (wipe σ vs) H' fun σ2 H2 => wipe σ2 vs = wipe σ vs ∧ tt σ2 H2 fun b H3 =>
        if b = true then tk σ2 H3 fun y H4 => tv σ2 H4 fun z H5 => ∃ kvs k, y = kV k ∧ H5 D = some (.dK kvs) ∧ kvs.length < sizeLine ∧ Nx (upd H5 D (.dK (putK kvs k z))) else Nx H3) := by
  refine ⟨fun i m H => m = n - i ∧ i ≤ n ∧ Pv i H, ⟨n, by simp, Nat.zero_le _, h0⟩, ?_⟩
  rintro i m H ⟨rfl, hi, p⟩
  have q := hG i H hi p
  by_cases hlt : i < n
  · exact .inr ⟨w.goes i H hlt q, Pv (i + 1), fun H' p' => ⟨n - (i + 1), by omega, rfl, hlt, p'⟩, fun x H' y => hs i x H H' hlt p (w.yields i H x H' hlt q y)⟩
  · have e : i = n := by omega
    subst e
    exact .inl ⟨w.stops H q, hd H p⟩
end My
namespace My
open PySem PySem.Spec PyProof.Rows L2
section
variable {X : Cx}
/-- x = {k: v for ..} -/
theorem ps_setDc {i : Nat} {y : Str} {py : Pos} {kx vx tg iter : Expr} {ifs : List Expr} {scope : Scope} {own : List (Str × Nat)} {pos spos : Pos} {wi : TI} {g : TG} {tt : TT} {tk tv : TE} (hc : X.calm = true) (hN : X.N.Nodup) (hy : X.N[i]? = some y) (hyl : X.env.scope.names.lookup y = some .local)
    (hsw : swapsWith (.DictComp kx vx [⟨tg, iter, ifs, 0⟩] scope pos) (some (.Name y py)) spos.line X.env = pure true) (hi : PI X tg iter wi) (ok : BlkOk X.N X.env.scope scope own)
    (hg : ∀ (s : Shared) (H : Hp) (C : Addr) (cl : List (Str × Addr)) (fp : List Addr), PG (X.blk s H scope (compEnvC scope cl C X.env) fp) tg g) (ht : ∀ (s : Shared) (H : Hp) (C : Addr) (cl : List (Str × Addr)) (fp : List Addr), PTs (X.blk s H scope (compEnvC scope cl C X.env) fp) ifs tt)
    (hk : ∀ (s : Shared) (H : Hp) (C : Addr) (cl : List (Str × Addr)) (fp : List Addr), PE (X.blk s H scope (compEnvC scope cl C X.env) fp) kx tk)
    (he : ∀ (s : Shared) (H : Hp) (C : Addr) (cl : List (Str × Addr)) (fp : List Addr), PE (X.blk s H scope (compEnvC scope cl C X.env) fp) vx tv) (hs : ∀ x, foldedSetIterable iter X.env x = pure x := by intro _; rfl) :
    PS X (.Assign [.Name y py] (.DictComp kx vx [⟨tg, iter, ifs, 0⟩] scope pos) spos) (tAsg (tDc wi g tt tk tv (own.map (·.2))) (gName i)) := by
  refine ⟨fun pins s σ H D I h => ?_⟩
  rw [exec_Assign_Name_used _ _ _ _ hsw]
  refine wpAny_bind (wpAny_standAt (wpAny_bind ?_))
  show wpAny _ X.A (do let _ ← comprehension (.DictComp kx vx [⟨tg, iter, ifs, 0⟩] scope pos) scope X.env (firstIterPos [⟨tg, iter, ifs, 0⟩] pos) newDict false (eval iter X.env) (some (assign (.Name y py) X.env))) _ _ s
  have h : tDc wi g tt tk tv (own.map (·.2)) σ H (fun x H1 => gName i x σ H1 D.nx) := h
  refine wpAny_bind (thn (dc_core (Qf := fun _ s' => SP X pins D .next s') hc hN I hi ok hg ht hk he hs h fun L C s' m H' I' q hn f => ?_) fun _ s' hq => wpAny_pure (wpAny_pure hq))
  show wpAny _ _ (assign (.Name y py) X.env (.ref L)) _ _ _
  refine wpAny_assign_Name (store_ok2 (v := V.ref L) I' hN hy (.inl hyl) rfl (fun s2 I2 ⟨a, sb, ha⟩ => ?_) (.inr hyl))
  obtain ⟨f0, f1, f2, f3, f4, f5⟩ := f
  have haC : C ≠ a := by
    rcases ha with z | z
    · rw [z]; exact f1
    · exact fun e => f4 y a z e.symm
  refine ⟨m, hn.sameBut sb haC, fun h3 sb3 => ?_⟩
  exact ⟨_, H', I2.turned (t' := s2.toks) (fun b o hb e => (sb3.2 b hb).trans e) f0 f1 f3 f4 f5, q⟩
theorem sw_trueD {kx vx : Expr} {gs : List Comprehension} {scope : Scope} {pos py : Pos} {y : Str} {l : Nat} {env : Env} (hk : env.scope.kind = .function) (hy : env.scope.names.lookup y = some .local) (hl : (py.line == pos.line) = true)
    (ha : (scope.names.any fun (n, k) => n == y && (k == .local || k == .cell)) = false) : swapsWith (.DictComp kx vx gs scope pos) (some (.Name y py)) l env = pure true := by
  have ky : env.kindOf y = some .local := hy
  have hb : env.blockKind = .function := by unfold Env.blockKind; rw [hk]; rfl
  unfold swapsWith
  simp only [hb, ky, ha, Expr.pos, hl]
  rfl
end
end My
namespace My
open PySem L2
theorem cut_mid (xs : List V) {n m : Nat} (h : m ≤ xs.length) : cutV xs (some (n : Int)) (some (m : Int)) = (xs.drop n).take (m - n) := by
  unfold cutV
  rw [HT.sIx_nat, HT.sIx_nat, Nat.min_eq_left h]
  by_cases h2 : n ≤ xs.length
  · rw [Nat.min_eq_left h2]
  · rw [Nat.min_eq_right (by omega), List.drop_eq_nil_of_le (Nat.le_refl _), List.drop_eq_nil_of_le (by omega), List.take_nil, List.take_nil]
theorem nodup_len : ∀ {l m : List Int}, l.Nodup → (∀ r ∈ l, r ∈ m) → l.length ≤ m.length
  | [], _, _, _ => Nat.zero_le _
  | x :: l, m, h, s => by
    obtain ⟨h1, h2⟩ := List.nodup_cons.mp h
    have hx := s x List.mem_cons_self
    have := nodup_len (m := m.erase x) h2 fun r hr => (List.mem_erase_of_ne (fun e : r = x => h1 (by rw [← e]; exact hr))).mpr (s r (List.mem_cons_of_mem _ hr))
    rw [List.length_erase_of_mem hx] at this
    have : 0 < m.length := List.length_pos_of_mem hx
    rw [List.length_cons]
    omega
/-- the keys of a dict of marks -/
structure FdOk (f : Int → Bool) (dom ks : List Int) : Prop where
  nd : ks.Nodup
  is : ∀ r, r ∈ ks ↔ f r = true
  dm : ∀ r ∈ ks, r ∈ dom
theorem FdOk.len {f : Int → Bool} {dom ks : List Int} (h : FdOk f dom ks) : ks.length ≤ dom.length := nodup_len h.nd h.dm
theorem FdOk.congr {f g : Int → Bool} {dom ks : List Int} (h : FdOk f dom ks) (e : ∀ r, f r = g r) : FdOk g dom ks := ⟨h.nd, fun r => by rw [h.is, e], h.dm⟩
theorem FdOk.put {f : Int → Bool} {dom ks : List Int} (h : FdOk f dom ks) {k : Int} (hk : k ∈ dom) : FdOk (fun r => if r = k then true else f r) dom (if k ∈ ks then ks else ks ++ [k]) :=
  ⟨put_nodup h.nd k, fun r => by
    rw [mem_put, h.is]
    by_cases e : r = k
    · simp [e]
    · simp [e], fun r hr => by
    rcases mem_put.mp hr with z | z
    · exact h.dm r z
    · exact z ▸ hk⟩
theorem FdOk.drop {f : Int → Bool} {dom ks : List Int} (h : FdOk f dom ks) (k : Int) : FdOk (fun r => if r = k then false else f r) dom (ks.filter fun n => decide (n ≠ k)) :=
  ⟨h.nd.sublist List.filter_sublist, fun r => by
    rw [List.mem_filter, h.is]
    by_cases e : r = k
    · simp [e]
    · simp [e], fun r hr => h.dm r (List.mem_filter.mp hr).1⟩
abbrev tt : Int → V := fun _ => .bl true
theorem putK_tt (k : Int) (ks : List Int) : putK (kvsOf ks tt) (Sum.inl k) (.bl true) = kvsOf (if k ∈ ks then ks else ks ++ [k]) tt := by
  rw [putK_kvs]
  exact kvs_congr fun n _ => by
    show (if n = k then V.bl true else .bl true) = .bl true
    split <;> rfl
theorem kvs_snoc (ks : List Int) (g : Int → V) (k : Int) (h : k ∉ ks) : putK (kvsOf ks g) (Sum.inl k) (g k) = kvsOf (ks ++ [k]) g := by
  rw [putK_kvs, if_neg h]
  exact kvs_congr fun n _ => by
    show (if n = k then g k else g n) = g n
    split
    · rename_i e
      rw [e]
    · rfl
theorem nodup_inj {ns : List Int} (h : ns.Nodup) {i j : Nat} (hi : i < ns.length) (hj : j < ns.length) (e : ns[i] = ns[j]) : i = j := by
  have hp := List.pairwise_iff_getElem.mp h
  rcases Nat.lt_trichotomy i j with z | z | z
  · exact absurd e (hp i j hi hj z)
  · exact z
  · exact absurd e.symm (hp j i hj hi z)
theorem nodup_take {ns : List Int} (h : ns.Nodup) (i : Nat) {x : Int} (hx : ns[i]? = some x) : x ∉ ns.take i := fun m => by
  obtain ⟨j, hj, e⟩ := List.getElem_of_mem m
  rw [List.length_take] at hj
  rw [List.getElem_take] at e
  obtain ⟨hi, e2⟩ := List.getElem?_eq_some_iff.mp hx
  have := nodup_inj h (i := j) (j := i) (by omega) hi (by rw [e, e2])
  omega
theorem idx_of {ns : List Int} (h : ns.Nodup) {i : Nat} {x : Int} (hx : ns[i]? = some x) : ns.idxOf x = i := by
  obtain ⟨hi, e2⟩ := List.getElem?_eq_some_iff.mp hx
  have hm : x ∈ ns := List.mem_of_getElem? hx
  have hlt := List.idxOf_lt_length_of_mem hm
  exact nodup_inj h (i := ns.idxOf x) (j := i) hlt hi (by rw [List.getElem_idxOf, e2])
theorem take_snoc {α : Type} {ns : List α} {i : Nat} {x : α} (hx : ns[i]? = some x) : ns.take (i + 1) = ns.take i ++ [x] := by
  rw [List.take_add_one, hx]
  rfl
theorem foldl_take {α β : Type} {f : β → α → β} {b : β} {cs : List α} {i : Nat} {c : α} (h : cs[i]? = some c) : (cs.take (i + 1)).foldl f b = f ((cs.take i).foldl f b) c := by
  rw [take_snoc h, List.foldl_append]
  rfl
theorem peBMK {X : Cx} {K : PySem.W.Frag} (h : X.K = K) {e : Expr} {T : String} {r : V → List V → Hp → VK → Prop} {to : TE} {t : TA} (p : PE X e (tBM X.K T r to t)) : PE X e (tBM K T r to t) := h ▸ p
theorem peBM0K {X : Cx} {K : PySem.W.Frag} (h : X.K = K) {e : Expr} {T : String} {r : V → List V → Hp → VK → Prop} {to : TE} (p : PE X e (tBM0 X.K T r to)) : PE X e (tBM0 K T r to) := h ▸ p
section
variable {X : Cx} {e : Expr} {te : L2.St → Hp → (Int → Int → Hp → Prop) → Prop}
def tCutR (te : L2.St → Hp → (Int → Int → Hp → Prop) → Prop) : L2.St → Hp → (Int → Int → Hp → Prop) → Prop := fun σ H Q => ∃ M : Int → Int → Hp → Prop, te σ H M ∧ ∀ a b H', M a b H' → Q a b H'
theorem prg_cut (h : PRg X e te) : PRg X e (tCutR te) := fun pins s σ H Q I ⟨M, hm, hq⟩ => thn (h pins s σ H M I hm) fun x s1 ⟨r, a, b, t, u, v, H', e1, e2, I1, q⟩ => ⟨r, a, b, t, u, v, H', e1, e2, I1, hq a b H' q⟩
def tLstRgG (te : L2.St → Hp → (Int → Int → Hp → Prop) → Prop) : TE := fun σ H Q => te σ H fun a b H1 => RgOk a b ∧ New (.lst (rgV a b)) H1 Q
/-- list(range(..)) -/
theorem pe_listRgG {p pos : Pos} (hc : X.calm = true) (hg : Gl X "list") (hm : X.mg "list" = none) (he : PRg X e te) (na : PySem.starEach [e] X.env = (false, PySem.eval e X.env) :: PySem.starEach [] X.env := by rfl) : PE X (.Call (.Name "list" p) [e] [] pos) (tLstRgG te) :=
  pe_weak (pe_listRg hc hg hm (prg_cut he) na) fun σ H Q q => ⟨_, q, fun _ _ _ z => ⟨z.1, fun p hp => z.2.go p hp⟩⟩
/-- the ints 0 .. n - 1 -/
def upN (n : Nat) : List Int := (List.range n).map fun i => ((i : Nat) : Int)
theorem rgV_upN (n : Nat) : rgV 0 (n : Int) = (upN n).map V.int := by
  unfold rgV upN
  rw [List.map_map]
  have e : ((n : Int) - 0).toNat = n := by omega
  rw [e]
  exact List.map_congr_left fun i _ => by
    show V.int (0 + (i : Int)) = V.int (i : Int)
    rw [Int.zero_add]
theorem upN_len (n : Nat) : (upN n).length = n := by
  unfold upN
  rw [List.length_map, List.length_range]
theorem upN_mem {n : Nat} {r : Int} (h : r ∈ upN n) : 0 ≤ r ∧ r < n := by
  unfold upN at h
  obtain ⟨i, hi, rfl⟩ := List.mem_map.mp h
  have := List.mem_range.mp hi
  omega
theorem upN_nodup (n : Nat) : (upN n).Nodup := by
  unfold upN
  show List.Pairwise _ _
  rw [List.pairwise_map]
  exact List.nodup_range.imp fun h => by omega
end
end My
set_option Elab.async false
set_option linter.all false
set_option maxRecDepth 100000
set_option maxHeartbeats 4000000
/-! repr: how long what is shown can be; repr of any data without dicts. -/
namespace My
open PySem PySem.Spec PyProof.Rows L2
/-- data that can be shown, no deeper than n, in at most M signs -/
structure Shw (d : PyData) (n M : Nat) : Prop where
  sh : d.showable = true
  nd : d.hasDict = false
  dp : d.depth ≤ n
  ln : d.shown.length ≤ M
theorem Shw.mono {d : PyData} {n m M L : Nat} (h : Shw d n M) (h1 : n ≤ m) (h2 : M ≤ L) : Shw d m L := ⟨h.sh, h.nd, Nat.le_trans h.dp h1, Nat.le_trans h.ln h2⟩
theorem log_of {i : Int} (h : i.natAbs < 2 ^ 1900) : i.natAbs.log2 < 1920 := by
  have := PySem.Flt.log2_lt_of (k := 1900) (by decide) h
  omega
theorem Shw.int {i : Int} (h : i.natAbs.log2 < 1920) : Shw (.int i) 0 1921 := ⟨decide_eq_true h, rfl, Nat.le_refl _, by
  show (Str.ofString (toString i)).length ≤ 1921
  rw [PySem.ofString_length]
  exact int_text_length_le (k := 1920) (by decide) h⟩
theorem Shw.none : Shw .none 0 4 := ⟨rfl, rfl, Nat.le_refl _, by decide⟩
theorem Shw.bool (b : Bool) : Shw (.bool b) 0 5 := ⟨rfl, rfl, Nat.le_refl _, by cases b <;> decide⟩
theorem textFrom_le : ∀ (ts : List Str) (k : Nat) (acc : Str), (textFrom k acc ts).length ≤ acc.length + piled ts
  | [], k, acc => by
    show acc.length ≤ acc.length + piled []
    omega
  | t :: r, k, acc => by
    have ih := textFrom_le r (k + 1) (acc ++ (if k > 0 then ", " else "" : String) ++ t)
    have l2 : (if k > 0 then 2 else 0) ≤ 2 := by split <;> omega
    have e : (acc ++ (if k > 0 then ", " else "" : String) ++ t).length = acc.length + (if k > 0 then 2 else 0) + t.length := by
      rw [Str.length_append, Str.length_append]
      split <;> rfl
    rw [e] at ih
    show (textFrom (k + 1) (acc ++ (if k > 0 then ", " else "" : String) ++ t) r).length ≤ _
    rw [piled_cons]
    omega
theorem piled_le {M : Nat} : ∀ ts : List Str, (∀ t ∈ ts, t.length ≤ M) → piled ts ≤ ts.length * (M + 2)
  | [], _ => Nat.zero_le _
  | t :: r, h => by
    have ih := piled_le r fun x hx => h x (List.mem_cons_of_mem _ hx)
    have := h t List.mem_cons_self
    rw [piled_cons, List.length_cons, Nat.succ_mul]
    omega
theorem all_of {n M : Nat} : ∀ {xs : List PyData}, (∀ x ∈ xs, Shw x n M) → PyData.showableAll xs = true ∧ PyData.hasDictAll xs = false ∧ PyData.depthAll xs ≤ n ∧ (PyData.shownAll xs).length = xs.length ∧ ∀ t ∈ PyData.shownAll xs, t.length ≤ M
  | [], _ => ⟨rfl, rfl, Nat.zero_le _, rfl, fun t ht => by cases ht⟩
  | x :: xs, h => by
    obtain ⟨h1, h2, h3, h4, h5⟩ := all_of (xs := xs) fun y hy => h y (List.mem_cons_of_mem _ hy)
    have hx := h x List.mem_cons_self
    refine ⟨?_, ?_, ?_, ?_, fun t ht => ?_⟩
    · show (PyData.showable x && PyData.showableAll xs) = true
      rw [hx.sh, h1]
      rfl
    · show (PyData.hasDict x || PyData.hasDictAll xs) = false
      rw [hx.nd, h2]
      rfl
    · exact Nat.max_le.mpr ⟨hx.dp, h3⟩
    · show (PyData.shownAll xs).length + 1 = xs.length + 1
      rw [h4]
    · rcases List.mem_cons.mp (show t ∈ PyData.shown x :: PyData.shownAll xs from ht) with z | z
      · rw [z]
        exact hx.ln
      · exact h5 t z
theorem Shw.list {n M : Nat} {xs : List PyData} (h : ∀ x ∈ xs, Shw x n M) : Shw (.list xs) (n + 1) (2 + xs.length * (M + 2)) := by
  obtain ⟨h1, h2, h3, h4, h5⟩ := all_of h
  refine ⟨h1, h2, by show PyData.depthAll xs + 1 ≤ n + 1; omega, ?_⟩
  show (textFrom 0 "[" (PyData.shownAll xs) ++ ("]" : Str)).length ≤ _
  have a := textFrom_le (PyData.shownAll xs) 0 "["
  have b := piled_le _ h5
  have e1 : ((("[" : String) : Str)).length = 1 := rfl
  have e2 : ((("]" : String) : Str)).length = 1 := rfl
  rw [Str.length_append, e2]
  rw [e1] at a
  rw [h4] at b
  omega
theorem Shw.tuple {n M : Nat} {xs : List PyData} (h : ∀ x ∈ xs, Shw x n M) : Shw (.tuple xs) (n + 1) (3 + xs.length * (M + 2)) := by
  obtain ⟨h1, h2, h3, h4, h5⟩ := all_of h
  refine ⟨h1, h2, by show PyData.depthAll xs + 1 ≤ n + 1; omega, ?_⟩
  show (tupleText (PyData.shownAll xs)).length ≤ _
  have b := piled_le _ h5
  unfold tupleText
  rw [Str.length_append, Str.length_append]
  have e1 : ((("(" : String) : Str)).length = 1 := rfl
  have e3 : (((if (PyData.shownAll xs).length == 1 then ",)" else ")" : String) : Str)).length ≤ 2 := by split <;> decide
  rw [e1]
  rw [h4] at b
  by_cases z : PyData.shownAll xs = []
  · rw [z] at e3 ⊢
    have : (Str.join ", " ([] : List Str)).length = 0 := rfl
    omega
  · have := join_length_add _ z
    omega
/-- ints within some bits -/
def Bd (b : Nat) (ns : List Int) : Prop := ∀ n ∈ ns, n.natAbs < 2 ^ b
theorem Shw.ints {b : Nat} {ns : List Int} (hb : b ≤ 1900) (h : Bd b ns) : Shw (eL PyData.int ns) 1 (2 + ns.length * 1923) := by
  have := Shw.list (n := 0) (M := 1921) (xs := ns.map PyData.int) fun x hx => by
    obtain ⟨n, hn, rfl⟩ := List.mem_map.mp hx
    exact Shw.int (log_of (Nat.lt_of_lt_of_le (h n hn) (Nat.pow_le_pow_right (by decide) hb)))
  rw [List.length_map] at this
  exact this
section
variable {X : Cx}
/-- repr of any data without dicts -/
def rReprA (K : PySem.W.Frag) : List V → Hp → VK → Prop := fun vs H Q => ∃ (v : V) (d : PyData), vs = [v] ∧ Dp K H v d ∧ Shw d 60 sizeLine ∧ Q (.str d.shown) H
theorem cr_reprA (gd : X.A.guards = some []) (hu : X.A.units + 64 < cLine) : CallR X (.builtin "repr") (rReprA X.K) := by
  intro pins s σ H vs us Q I r h
  obtain ⟨v, d, rfl, hd, sw, q⟩ := h
  obtain ⟨u, rfl, ru⟩ := vals1 r
  cases hd with
  | non =>
    cases ru
    exact PySem.P.repr_of_none ⟨.str _, H, I.tok _, ⟨_, rfl⟩, q⟩
  | bl b =>
    cases ru
    exact PySem.P.repr_of_bool ⟨.str _, H, I.tok _, ⟨_, rfl⟩, q⟩
  | int i =>
    obtain ⟨t, rfl⟩ := ru
    exact PySem.P.repr_of_int (of_decide_eq_true sw.sh) ⟨.str _, H, I.tok _, ⟨_, rfl⟩, q⟩
  | str x =>
    obtain ⟨t, rfl⟩ := ru
    exact PySem.P.repr_of_str ⟨.str _, H, I.tok _, ⟨_, rfl⟩, q⟩ sw.ln
  | lst h1 h2 => exact cr_repr gd hu pins s σ H _ _ Q I r ⟨_, _, rfl, .lst h1 h2, sw.sh, sw.nd, sw.dp, sw.ln, ⟨_, rfl⟩, q⟩
  | tup h1 h2 => exact cr_repr gd hu pins s σ H _ _ Q I r ⟨_, _, rfl, .tup h1 h2, sw.sh, sw.nd, sw.dp, sw.ln, ⟨_, rfl⟩, q⟩
end
end My
set_option Elab.async false
set_option linter.all false
set_option maxRecDepth 100000
set_option maxHeartbeats 4000000
/-! Own classes: len(o) by an own __len__, o == p and o != p by an own __eq__. -/
namespace My
open PySem PySem.Spec PyProof.Rows L2
section
variable {X : Cx} {CX : CXT} {n : Nat} {f C : Addr} {fd : FuncData} {ps : List Str} {sp : Sp} {E : XK}
/-- a def called with an around one deeper; what is raised does not leave -/
theorem run_in1 {pins : List (Addr × Obj)} {σ : L2.St} {H : Hp} {s : Shared} {Q : VK} {E' : Value → Shared → Prop} {us : List Value} {vs : List V} (F : FnOk X.prog X.w X.K X.mg X.base CX n f fd ps sp) (hr : Room (n + 1) X.A) (hb : Binds X.K fd ps []) (hx : Passes CX X.nox E)
    (I : Inv X pins σ H s) (r : Vals vs us) (h : sp vs H Q E) : wpAny (model X.prog X.w) X.A.in1 (call (.ref f) us) (EP X pins σ Q) E' s := by
  have hl : us.length = ps.length := by rw [← r.length]; exact F.len _ _ _ _ h
  have hb' := hb s us I.kIn (by rw [List.append_nil]; exact hl)
  rw [List.append_nil] at hb'
  refine wpAny_call (codeAny_mono (F.run X.A.in1 X.stack s H ⟨us, []⟩ us vs Q E hr.in1 I.env0.in1 hb' r h) fun r s' hq => ?_)
  cases r with
  | error er => exact False.elim (hx pins σ H s er s' (I.wish _) hq)
  | ok fl =>
    cases fl with
    | ret u => exact I.after hq
    | next => exact False.elim hq
    | brk => exact False.elim hq
    | cont => exact False.elim hq
def rLenO (C : Addr) (sp : Sp) (E : XK) : List V → Hp → VK → Prop := fun vs H Q => ∃ a dx fs, vs = [V.ref a] ∧ H a = some (.ins C dx fs) ∧ sp [.ref a] H (fun v H' => ∃ m : Int, v = .int m ∧ 0 ≤ m ∧ m < 2 ^ 63 ∧ Q (.int m) H') E
theorem cr_lenO (F : FnOk X.prog X.w X.K X.mg X.base CX n f fd ps sp) (hr : Room (n + 1) X.A) (hs : PySem.W.findIn X.K (.ref C) "__len__" = some (some (.ref f))) (hf : PySem.W.isFn X.K (.ref f) = true) (hb : Binds X.K fd ps []) (hx : Passes CX X.nox E) : CallR X (.builtin "len") (rLenO C sp E) := by
  intro pins s σ H vs us Q I r h
  obtain ⟨a, dx, fs, rfl, ha, h⟩ := h
  rw [Vals.ref1 r]
  obtain ⟨mA, J, _⟩ := ins_get I.hok ha
  obtain ⟨od, J, _⟩ := J.look
  obtain ⟨m, hF⟩ := I.fr
  refine PySem.W.len_K hF I.ok.mod.kin J hs hf (wpAny_mono (run_in1 (vs := [V.ref a]) F hr hb hx I (.cons rfl .nil) h) (fun u s' z => ?_) fun _ _ e => e)
  obtain ⟨v, H', I', rv, m, rfl, m0, m1, q⟩ := z
  obtain ⟨t, rfl⟩ := rv
  exact ⟨⟨m0, m1⟩, .int m, H', I'.tok _, ⟨_, rfl⟩, q⟩
def rEqO (C : Addr) (sp : Sp) (E : XK) : R2 := fun x y H Q => ∃ a b dx fs dy gs, x = .ref a ∧ y = .ref b ∧ H a = some (.ins C dx fs) ∧ H b = some (.ins C dy gs) ∧ sp [.ref a, .ref b] H (fun v H' => ∃ r : Bool, v = .bl r ∧ Q (.bl r) H') E
def rNeO (C : Addr) (sp : Sp) (E : XK) : R2 := fun x y H Q => ∃ a b dx fs dy gs, x = .ref a ∧ y = .ref b ∧ H a = some (.ins C dx fs) ∧ H b = some (.ins C dy gs) ∧ sp [.ref a, .ref b] H (fun v H' => ∃ r : Bool, v = .bl r ∧ Q (.bl (!r)) H') E
theorem run_here {pins : List (Addr × Obj)} {σ : L2.St} {H : Hp} {s : Shared} {Q : VK} {us : List Value} {vs : List V} (F : FnOk X.prog X.w X.K X.mg X.base CX n f fd ps sp) (hr : Room n X.A) (hb : Binds X.K fd ps []) (hx : Passes CX X E)
    (I : Inv X pins σ H s) (r : Vals vs us) (h : sp vs H Q E) : wpAny (model X.prog X.w) X.A (call (.ref f) us) (EP X pins σ Q) X.xe s := by
  have hl : us.length = ps.length := by rw [← r.length]; exact F.len _ _ _ _ h
  have hb' := hb s us I.kIn (by rw [List.append_nil]; exact hl)
  rw [List.append_nil] at hb'
  refine wpAny_call (codeAny_mono (F.run X.A X.stack s H ⟨us, []⟩ us vs Q E hr I.env0 hb' r h) fun r s' hq => ?_)
  cases r with
  | error er => exact hx pins σ H s er s' I hq
  | ok fl =>
    cases fl with
    | ret u => exact I.after hq
    | next => exact False.elim hq
    | brk => exact False.elim hq
    | cont => exact False.elim hq
theorem op_eqO (F : FnOk X.prog X.w X.K X.mg X.base CX n f fd ps sp) (hr : Room n X.A) (hs : PySem.W.findIn X.K (.ref C) "__eq__" = some (some (.ref f))) (hf : PySem.W.isFn X.K (.ref f) = true) (hb : Binds X.K fd ps []) (hx : Passes CX X E) : OpR X (compareOp .Eq) (rEqO C sp E) := by
  intro pins s σ H x y v u Q I rx ry h
  obtain ⟨a, b, dx, fs, dy, gs, rfl, rfl, ha, hb', h⟩ := h
  cases rx
  cases ry
  obtain ⟨mA, J, _⟩ := ins_get I.hok ha
  obtain ⟨mB, J', _⟩ := ins_get I.hok hb'
  obtain ⟨od, J, _⟩ := J.look
  obtain ⟨od', J', _⟩ := J'.look
  obtain ⟨m, hF⟩ := I.fr
  show wpAny (model X.prog X.w) X.A (richCompare .Eq (.ref a) (.ref b)) (EP X pins σ Q) X.xe s
  refine PySem.W.cmp_K (op := .Eq) (tb := .ref C) hr.units0 hF I.ok.mod.kin J J'.type (by simp [PySem.W.notFirst]) hs hf ?_
  refine wpAny_mono (run_here (vs := [V.ref a, V.ref b]) F hr hb hx I (.cons rfl (.cons rfl .nil)) h) (fun u s' z => ?_) fun _ _ e => e
  obtain ⟨v, H', I', rv, r, rfl, q⟩ := z
  cases rv
  exact ⟨.bl r, H', I', rfl, q⟩
theorem ifBound_objNe {M : Model} {A : Around} {E : Value → Shared → Prop} {s : Shared} {K : PySem.W.Frag} {x C : Addr} {ox : Obj} {od : Option Obj} {args : List Value} {Q : Option Value → Shared → Prop} (KX : K.In s.heap) (I : PySem.W.InstAt s.heap x ox C od) (hs : PySem.W.findIn K (.ref C) "__ne__" = some (some (.builtin "object.__ne__")))
    (h : wpAny M A (call (.builtin "object.__ne__") (.ref x :: args)) (fun v => Q (some v)) E s) : wpAny M A (callSpecialIfBound? (.ref x) "__ne__" args) Q E s := by
  simp only [callSpecialIfBound?, bindSpecialIfBound?]
  refine wpAny_holding (wpAny_bind (wpAny_bind (wpAny_bind (I.type.here ((PySem.W.looks_findIn KX hs).here ?_)))))
  refine wpAny_bind (wpAny_askSetting (wpAny_ite ?_))
  have fin : wpAny M A (call (.builtin "object.__ne__") ([.ref x] ++ args) >>= fun v => pure (some v)) Q E s := wpAny_bind (wpAny_mono h (fun v s' h' => wpAny_pure h') fun _ _ h' => h')
  split
  · exact wpAny_bind (wpAny_of_eq (F.cmp_object.ne.bind _) (wpAny_pure (by exact fin)))
  · exact wpAny_tryCatch (wpAny_bind (wpAny_of_eq (F.cmp_object.ne.bind _) (wpAny_pure (by exact fin))))
theorem op_neO (F : FnOk X.prog X.w X.K X.mg X.base CX n f fd ps sp) (hr : Room (n + 1) X.A) (hs : PySem.W.findIn X.K (.ref C) "__eq__" = some (some (.ref f))) (hn : PySem.W.findIn X.K (.ref C) "__ne__" = some (some (.builtin "object.__ne__"))) (hm : PySem.W.mroIn X.K C (.type "object") = some true) (hf : PySem.W.isFn X.K (.ref f) = true) (hb : Binds X.K fd ps []) (hx : Passes CX X.nox E) : OpR X (compareOp .NotEq) (rNeO C sp E) := by
  intro pins s σ H x y v u Q I rx ry h
  obtain ⟨a, b, dx, fs, dy, gs, rfl, rfl, ha, hb', h⟩ := h
  cases rx
  cases ry
  obtain ⟨mA, J, _⟩ := ins_get I.hok ha
  obtain ⟨mB, J', _⟩ := ins_get I.hok hb'
  obtain ⟨od, J, _⟩ := J.look
  obtain ⟨od', J', _⟩ := J'.look
  have KX := I.kIn
  show wpAny (model X.prog X.w) X.A (richCompare .NotEq (.ref a) (.ref b)) (EP X pins σ Q) X.xe s
  have one : wpAny (model X.prog X.w) X.A (tryCompare (.ref a) "__ne__" (.ref b)) (fun r s' => ∃ v, r = some v ∧ EP X pins σ Q v s') X.xe s := by
    unfold tryCompare
    refine wpAny_bind (ifBound_objNe KX J hn ?_)
    refine wpAny_call (codeAny_call_builtin PySem.F.cmp_object.ne.plain PySem.F.cmpEntry_ne (PySem.W.check_slot PySem.F.cmpKind_ne PySem.F.cmpSplit_ne (J.type.andThen (PySem.W.looks_mroIn KX hm)) (PySem.F.cmpArgs_ne _ _) ?_))
    unfold Builtin.«object.__ne__»
    refine wpAny_bind (wpAny_pure ?_)
    refine wpAny_bind (wpAny_cRoomFor (hr.in1).units0 ?_)
    refine wpAny_bind (m := callSpecialIfBound? (.ref a) (Str.ofString "__eq__") _) (PySem.W.ifBound_K KX J hs hf (wpAny_mono (run_in1 (vs := [V.ref a, V.ref b]) F hr hb hx I (.cons rfl (.cons rfl .nil)) h) (fun u s' z => ?_) fun _ _ e => e))
    obtain ⟨v, H', I', rv, r, rfl, q⟩ := z
    cases rv
    show wpAny _ X.A.in1 (truthy (.bool r) >>= _) _ _ s'
    refine wpAny_bind (wpAny_truthy_bool ?_)
    refine wpAny_pure ?_
    show wpAny _ X.A _ _ _ s'
    exact wpAny_pure ⟨_, rfl, .bl (!r), H', I', rfl, q⟩
  unfold richCompare
  simp only [oneThing_ref]
  refine wpAny_holding (wpAny_bind (wpAny_cRoomFor hr.units0 ?_))
  refine wpAny_bind (J.type.here (wpAny_bind (J'.type.here ?_)))
  split
  · rename_i q
    simp at q
  · refine wpAny_bind (wpAny_pure ?_)
    simp only [Bool.false_eq_true, if_false]
    refine wpAny_bind (wpAny_mono one (fun r s' z => ?_) fun _ _ e => e)
    obtain ⟨v, rfl, hq⟩ := z
    exact wpAny_pure hq
theorem pe_fldK {K : PySem.W.Frag} (h : X.K = K) {e : Expr} {g : Str} {ta : TE} (p : PE X e (tFld X.K ta g)) : PE X e (tFld K ta g) := h ▸ p
/-- tuple(x): of a list a new one, of a tuple itself -/
def rTupleA (K : PySem.W.Frag) : List V → Hp → VK → Prop := fun xs H Q => ∃ p ys, xs = [V.ref p] ∧ ((SqL K H p ys ∧ New (.tup ys) H Q) ∨ (SqT K H p ys ∧ Q (.ref p) H))
theorem call_tupleA : CallR X (.type "tuple") (rTupleA X.K) := fun pins s σ H xs us Q I r ⟨p, ys, h1, h2⟩ => call_tuple_of pins s σ H xs us Q I r ⟨p, ys, h1, h2.imp (fun z => ⟨z.1, fun l hl => z.2.go l hl⟩) id⟩
end
end My
set_option Elab.async false
set_option linter.all false
set_option maxRecDepth 100000
set_option maxHeartbeats 4000000
/-! sorted(xs) of any alike data (tuples, lists, texts, ints, nested), as a rule of the hand layer. -/
namespace My
open PySem PySem.Spec PyProof.Rows L2
open PySem.W (EachIs AllAlike Sortable dataKind sortVals KeyedOut dataLe)
/-- the values sorted by their data -/
def zsort (xs : List V) (ds : List PyData) : List V := ((xs.zip ds).mergeSort (dataLe false (·.2))).map (·.1)
def dsort (ds : List PyData) : List PyData := ds.mergeSort (dataLe false fun d => d)
theorem zsort_len {xs : List V} {ds : List PyData} (h : xs.length = ds.length) : (zsort xs ds).length = xs.length := by
  unfold zsort
  rw [List.length_map, List.length_mergeSort, List.length_zip, h, Nat.min_self]
theorem each_reads {h : Heap} : ∀ {vs : List Value} {ds : List PyData} {as : List Addr}, ReadsAll h vs ds as → EachIs (fun v d => ∃ as, Reads h v d as) vs ds
  | _, _, _, .nil => .nil
  | _, _, _, .cons h t => .cons ⟨_, h⟩ (each_reads t)
theorem each_vals : ∀ {us : List Value} {ps : List (V × PyData)}, EachIs (fun (u : Value) (p : V × PyData) => RelV p.1 u) us ps → Vals (ps.map (·.1)) us
  | _, _, .nil => .nil
  | _, _, .cons h t => .cons h (each_vals t)
theorem each_zip : ∀ {xs : List V} {us : List Value} {ds : List PyData}, Vals xs us → xs.length = ds.length → EachIs (fun (u : Value) (p : V × PyData) => RelV p.1 u) us (xs.zip ds)
  | _, _, [], .nil, _ => .nil
  | _, _, _ :: _, .nil, h => by cases h
  | _, _, [], .cons _ _, h => by cases h
  | _, _, _ :: _, .cons h t, e => .cons h (each_zip t (by simpa using e))
theorem dpLen {K : PySem.W.Frag} {H : Hp} : ∀ {xs : List V} {ds : List PyData}, DpAll K H xs ds → xs.length = ds.length
  | _, _, .nil => rfl
  | _, _, .cons _ t => by simp [dpLen t]
section
variable {X : Cx}
def rSortedA (K : PySem.W.Frag) : List V → Hp → VK → Prop := fun vs H Q => ∃ (a : Addr) (xs : List V) (ds : List PyData), vs = [V.ref a] ∧ SqL K H a xs ∧ DpAll K H xs ds ∧ AllAlike ds ∧ Sortable ds ∧ (∀ d ∈ ds, d.depth ≤ 60) ∧ New (.lst (zsort xs ds)) H Q
theorem cr_sortedA (hu : X.A.units + 64 < cLine) : CallR X (.builtin "sorted") (rSortedA X.K) := by
  intro pins s σ H vs us Q I r h
  obtain ⟨a, xs, ds, rfl, hs, hd, hal, hso, hdep, q⟩ := h
  obtain ⟨its, rv, hl, hz⟩ := I.list hs
  rw [Vals.ref1 r]
  obtain ⟨as, hr⟩ := Dp.readsAll I ds xs its hd rv
  have hlen := dpLen hd
  have e0 := each_reads hr
  have e1 : EachIs (fun v d => ∃ as, Reads (PySem.W.sortingHeap (PySem.W.copyHeap s.heap its) (s.heap.objs.size + 1) its) v d as) its ds := e0.mono fun v d ⟨as, z⟩ => ⟨as, Reads.keeps (fun b o e => PySem.W.sorting_copy_old e) z⟩
  refine PySem.W.sorted_vals (κ := dataKind (PySem.W.sortingHeap (PySem.W.copyHeap s.heap its) (s.heap.objs.size + 1) its) ds) hl.isList (PySem.W.SortsAt.data (s := { s with heap := PySem.W.sortingHeap (PySem.W.copyHeap s.heap its) (s.heap.objs.size + 1) its }) e1 hal hso fun d m => ?_) (by rw [← rv.length]; exact hz) ?_
  · show X.A.units + 1 + 1 + d.depth < cLine
    have := hdep d m
    omega
  · have ez : (xs.zip ds).map (·.2) = ds := by
      rw [← List.zip_unzip (xs.zip ds)]
      simp [List.map_snd_zip, hlen]
    have ko : KeyedOut false ((xs.zip ds).map (·.2)) its (sortVals (dataKind (PySem.W.sortingHeap (PySem.W.copyHeap s.heap its) (s.heap.objs.size + 1) its) ds) false its its) := by
      rw [ez]
      exact ⟨_, its, hal, rfl, e1⟩
    have ev := each_vals (PySem.W.keyedOut_each (·.2) ko (each_zip rv hlen))
    obtain ⟨n, hn⟩ := sortedAll_at s.heap its (sortVals (dataKind (PySem.W.sortingHeap (PySem.W.copyHeap s.heap its) (s.heap.objs.size + 1) its) ds) false its its).toArray
    refine ⟨.ref _, upd H _ (.lst (zsort xs ds)), I.laid (t' := s.toks) (fun b o e => sortedAll_old e) (Nat.le_succ _) ⟨?_, _, n, ev, hn⟩, rfl, q.go _ (I.hok.fresh (Nat.le_succ _))⟩
    rw [zsort_len hlen]
    exact hz
/-- xs[::-1] -/
def tRevG (K : PySem.W.Frag) (te : TE) : TE := fun σ H Q => te σ H fun x H1 => ∃ a xs, x = .ref a ∧ SqL K H1 a xs ∧ New (.lst xs.reverse) H1 Q
theorem pe_revG {e : Expr} {te : TE} {k : Nat} {p1 p2 p3 pos : Pos} (he : PE X e te) : PE X (.Subscript e (.Slice none none (some (.UnaryOp .USub (.Constant (.int 1) k p1) p2)) p3) pos) (tRevG X.K te) :=
  pe_weak (pe_revL (pe_cut he)) fun σ H Q q => ⟨_, q, fun _ _ ⟨a, xs, h1, h2, h3⟩ => ⟨a, xs, h1, h2, fun p hp => h3.go p hp⟩⟩
theorem pe_revK {K : PySem.W.Frag} (h : X.K = K) {e : Expr} {te : TE} {k : Nat} {p1 p2 p3 pos : Pos} (he : PE X e te) : PE X (.Subscript e (.Slice none none (some (.UnaryOp .USub (.Constant (.int 1) k p1) p2)) p3) pos) (tRevG K te) := h ▸ pe_revG he
end
end My
set_option Elab.async false
set_option linter.all false
set_option maxRecDepth 100000
set_option maxHeartbeats 4000000
/-! Lists of objects, pair by pair; comprehensions that make objects; sorting of objects by their data. -/
namespace My
open PySem PySem.Spec PyProof.Rows L2
open PySem.W (AllAlike Sortable dataLe)
def AllR {α : Type} (R : V → α → Prop) (vs : List V) (xs : List α) : Prop := vs.length = xs.length ∧ ∀ (i : Nat) v x, vs[i]? = some v → xs[i]? = some x → R v x
section
variable {α β : Type} {R S : V → α → Prop} {vs us : List V} {xs ys : List α}
theorem AllR.nil : AllR R [] [] := ⟨rfl, fun i v x h => by cases h⟩
theorem AllR.mono (h : AllR R vs xs) (k : ∀ v x, R v x → S v x) : AllR S vs xs := ⟨h.1, fun i v x h1 h2 => k v x (h.2 i v x h1 h2)⟩
theorem AllR.get (h : AllR R vs xs) {i : Nat} {v : V} (hi : vs[i]? = some v) : ∃ x, xs[i]? = some x ∧ R v x := by
  have hlt : i < vs.length := (List.getElem?_eq_some_iff.mp hi).1
  have hr : xs[i]? = some (xs[i]'(by rw [← h.1]; exact hlt)) := List.getElem?_eq_getElem _
  exact ⟨_, hr, h.2 i v _ hi hr⟩
theorem AllR.row (h : AllR R vs xs) {i : Nat} {x : α} (hi : xs[i]? = some x) : ∃ v, vs[i]? = some v ∧ R v x := by
  have hlt : i < xs.length := (List.getElem?_eq_some_iff.mp hi).1
  have hr : vs[i]? = some (vs[i]'(by rw [h.1]; exact hlt)) := List.getElem?_eq_getElem _
  exact ⟨_, hr, h.2 i _ x hr hi⟩
theorem AllR.append (h : AllR R vs xs) (k : AllR R us ys) : AllR R (vs ++ us) (xs ++ ys) := by
  refine ⟨by simp [h.1, k.1], fun i v x h1 h2 => ?_⟩
  by_cases z : i < vs.length
  · rw [List.getElem?_append_left z] at h1
    rw [List.getElem?_append_left (by rw [← h.1]; exact z)] at h2
    exact h.2 i v x h1 h2
  · rw [List.getElem?_append_right (by omega)] at h1
    rw [List.getElem?_append_right (by rw [← h.1]; omega), ← h.1] at h2
    exact k.2 _ v x h1 h2
theorem AllR.one {v : V} {x : α} (h : R v x) : AllR R [v] [x] := ⟨rfl, fun i u y h1 h2 => by
  cases i with
  | zero =>
    cases h1
    cases h2
    exact h
  | succ n => cases h1⟩
theorem AllR.snoc (h : AllR R vs xs) {v : V} {x : α} (k : R v x) : AllR R (vs ++ [v]) (xs ++ [x]) := h.append (AllR.one k)
theorem AllR.take (h : AllR R vs xs) (n : Nat) : AllR R (vs.take n) (xs.take n) := by
  refine ⟨by simp [h.1], fun i v d h1 h2 => ?_⟩
  rw [List.getElem?_take] at h1 h2
  split at h1
  · rename_i z
    rw [if_pos z] at h2
    exact h.2 i v d h1 h2
  · cases h1
theorem AllR.dp {K : PySem.W.Frag} {H : Hp} {e : α → PyData} : ∀ {vs : List V} {xs : List α}, AllR R vs xs → (∀ v x, R v x → Dp K H v (e x)) → DpAll K H vs (xs.map e)
  | [], [], _, _ => .nil
  | [], _ :: _, h, _ => by cases h.1
  | _ :: _, [], h, _ => by cases h.1
  | v :: vs, x :: xs, h, k => .cons (k v x (h.2 0 v x rfl rfl)) (AllR.dp ⟨by simpa using h.1, fun i u y h1 h2 => h.2 (i + 1) u y h1 h2⟩ k)
/-- sorted objects, by the data of them -/
theorem AllR.sort (key : α → PyData) (h : AllR R vs xs) : AllR R (zsort vs (xs.map key)) (xs.mergeSort (dataLe false key)) := by
  have e1 : zsort vs (xs.map key) = ((vs.zip xs).mergeSort (fun p q => dataLe false key p.2 q.2)).map (·.1) := by
    unfold zsort
    have e : vs.zip (xs.map key) = (vs.zip xs).map (fun p => (p.1, key p.2)) := by
      rw [List.zip_map_right]
      rfl
    rw [e, ← List.map_mergeSort (r := fun p q => dataLe false key p.2 q.2) (fun _ _ _ _ => rfl), List.map_map]
    rfl
  have e2 : xs.mergeSort (dataLe false key) = ((vs.zip xs).mergeSort (fun p q => dataLe false key p.2 q.2)).map (·.2) := by
    rw [List.map_mergeSort (s := dataLe false key) (fun _ _ _ _ => rfl), List.map_snd_zip]
    rw [h.1]
    exact Nat.le_refl _
  rw [e1, e2]
  have hp := List.mergeSort_perm (vs.zip xs) (fun p q => dataLe false key p.2 q.2)
  generalize (vs.zip xs).mergeSort (fun p q => dataLe false key p.2 q.2) = Z at hp
  refine ⟨by simp, fun i v x h1 h2 => ?_⟩
  rw [List.getElem?_map] at h1 h2
  cases z : Z[i]? with
  | none => rw [z] at h1; cases h1
  | some p =>
    rw [z] at h1 h2
    cases h1
    cases h2
    have hm : p ∈ vs.zip xs := hp.mem_iff.mp (List.mem_of_getElem? z)
    obtain ⟨k, hk⟩ := List.getElem?_of_mem hm
    rw [List.getElem?_zip_eq_some] at hk
    exact h.2 k _ _ hk.1 hk.2
theorem none_of {H H' : Hp} {p : Addr} (e : Ex H H') (h : H' p = none) : H p = none := by
  cases z : H p with
  | none => rfl
  | some o => rw [e _ _ z] at h; cases h
theorem ne_some {H H' : Hp} {p D : Addr} (e : Ex H H') (h : H' p = none) (hD : H D ≠ none) : p ≠ D := fun z => hD (none_of e (z ▸ h))
/-- a comprehension without tests over a list, each element an object (or any value) that R tells -/
theorem lc_objL {K : PySem.W.Frag} {a : Addr} {xs : List V} {ys : List α} {R : Hp → V → α → Prop} {g : TG} {te : TE} {vs : List Nat} {σ : L2.St} {H1 : Hp} {D : Addr} {Qd : Hp → Prop} (hx : SqL K H1 a xs) (hD : H1 D = none) (hl : ys.length = xs.length) (hz : xs.length ≤ sizeLine)
    (st : ∀ H' H'' v y, R H' v y → Exj D H' H'' → R H'' v y)
    (he : ∀ (i : Nat) x y H', Ex H1 H' → H' D ≠ none → xs[i]? = some x → ys[i]? = some y → ∀ (N : VK) (Z : Hp → Prop), (∀ v H2, Ex H' H2 → R H2 v y → N v H2) → g x (wipe σ vs) H' fun σ2 H2 => wipe σ2 vs = wipe σ vs ∧ tYes σ2 H2 fun b H3 => if b = true then te σ2 H3 N else Z H3)
    (k : ∀ H' us, Ex H1 H' → H' D = some (.lst us) → AllR (R H') us ys → Qd H') :
    ∃ W : Nat → Nat → Hp → Prop, (∃ m, W 0 m (upd H1 D (.lst []))) ∧ ∀ i m H, W i m H →
      ((Itl K a).stop i H ∧ Qd H) ∨ ((Itl K a).go i H ∧ ∃ Nx : Hp → Prop, (∀ H', Nx H' → ∃ m', m' < m ∧ W (i + 1) m' H') ∧ ∀ x H', (Itl K a).yld i H x H' → g x (wipe σ vs) H' fun σ2 H2 => wipe σ2 vs = wipe σ vs ∧ tYes σ2 H2 fun b H3 =>
        if b = true then te σ2 H3 fun y H4 => ∃ acc, H4 D = some (.lst acc) ∧ acc.length < sizeLine ∧ Nx (upd H4 D (.lst (acc ++ [y]))) else Nx H3) := by
  refine lc_it (walk_list (K := K) (a := a) (xs := xs)) (fun i H' => ∃ us, Ex H1 H' ∧ H' D = some (.lst us) ∧ us.length = i ∧ AllR (R H') us (ys.take i)) ⟨[], Evl.Ex.new hD, upd_same, rfl, AllR.nil⟩ (fun i H' _ ⟨_, e, _⟩ => Evl.ex_l e hx) ?_ ?_
  · rintro i x H' H3 hi ⟨us, e', d', l', a'⟩ ⟨rfl, hv⟩
    have hy : ys[i]? = some (ys[i]'(by omega)) := List.getElem?_eq_getElem (by omega)
    refine he i x _ H3 e' (fun z => by rw [d'] at z; cases z) hv hy _ _ fun v H2 e2 r2 => ⟨us, e2 _ _ d', by omega, us ++ [v], Evl.Ex.mut (e'.trans e2) hD, upd_same, by simp [l'], ?_⟩
    rw [List.take_add_one, hy]
    have y1 : Exj D H2 (upd H2 D (.lst (us ++ [v]))) := (Exj.refl _ _).upd
    exact AllR.snoc (a'.mono fun u y r => st _ _ u y (st _ _ u y r (Exj.of e2)) y1) (st _ _ _ _ r2 y1)
  · rintro H' ⟨us, e', d', l', a'⟩
    rw [List.take_of_length_le (by omega)] at a'
    exact k H' us e' d' a'
end
end My
set_option Elab.async false
set_option linter.all false
set_option maxRecDepth 100000
set_option maxHeartbeats 4000000
/-! set(xs) of a list of ints as a set whose order is known; sorted(set(xs)); x in xs of nested data; a + b of own objects. -/
namespace My
open PySem PySem.Spec PyProof.Rows L2 PySem.SeqAt
abbrev nset (w : World) : Obj := { cls := .type "set", dict := none, data := .set #[] 0 (.fresh 0 0 (!w.params.followText "set-order")) }
section
variable {P : Program} {w : World} {A : Around} {E : Value → Shared → Prop} {s : Shared}
theorem call_set_lst {l : Addr} {xs : Array Value} (ns : List Int) {Q : Value → Shared → Prop} (hd : A.handled = none) (ha : s.heap.IsList l xs) (hi : IntsAre xs.toList ns) (hz : ns.length + 1 < scanBound)
    (k : ∀ (h1 : Heap) (tk c : Nat), SetR w h1 s.heap.objs.size (fun j => decide (j ∈ ns)) c → c ≤ ns.length → (∀ b o, s.heap.get? b = some o → h1.get? b = some o) → Q (.ref s.heap.objs.size) { s with heap := h1, toks := tk }) :
    wpAny (model P w) A (call (.type "set") [.ref l]) Q E s := by
  have nl : xs.size = ns.length := (Array.length_toList (xs := xs)).symm.trans hi.length
  obtain ⟨mc, ml, m0⟩ := F.called_set.mro; have m1 := F.called_set.made; have m2 := F.called_set.sub
  refine wpAny_call (codeAny_of_tree (show wpAny _ _ (callAny (.type "set") _) _ _ _ from wpAny_pure ⟨Code.quiet_builtin _ (by decide +kernel), codeAny_builtin F.entry_type_call ?_⟩))
  rw [Around.under_plain (weight_type_call_type "set" [.ref l] []) (by rfl)]
  have m3 := F.called_set.notType; have m4 := F.called_set.canCreate; have m5 := F.typeCall_set_1 (.ref l)
  repeat (any_goals (first | assumption | wp_step))
  refine codeAny_mono (code_set_led1 (.ref l) (E := E) (Q₁ := fun o s1 => o = .ref s.heap.objs.size ∧ s1 = { s with heap := s.heap.push (nset w) }) ⟨rfl, rfl⟩) fun r s1 hr => ?_
  rcases r with e | fl
  · exact hr
  rcases fl with _ | _ | _ | ob
  all_goals first | exact hr.elim | skip
  obtain ⟨rfl, rfl⟩ := hr
  have gS : (s.heap.push (nset w)).get? s.heap.objs.size = some (nset w) := Heap.get?_push_size _ rfl
  have tS : Shared.TypeIs { s with heap := s.heap.push (nset w) } (.ref s.heap.objs.size) "set" := ⟨_, gS, rfl⟩
  have m6 := F.called_set.init.lookup; have m7 := F.called_set.init.bind (.ref s.heap.objs.size)
  repeat (any_goals (first | assumption | wp_step))
  refine codeAny_mono (codeAny_call_builtin (R := wants (fun r s2 => r = .none ∧ ∃ h1 tk c, s2 = { s with heap := h1, toks := tk } ∧ SetR w h1 s.heap.objs.size (fun j => decide (j ∈ ns)) c ∧ c ≤ ns.length ∧ ∀ b o, s.heap.get? b = some o → h1.get? b = some o) E) F.called_set.init.plain F.entry_set_init (check_set_init_1 tS ?_)) fun r2 s2 hr2 => ?_
  · obtain ⟨⟨oc, od, ot, os⟩, ho, c1, m, c2⟩ := ha
    simp only at c1 c2
    subst c1; subst c2
    have ho1 : (s.heap.push (nset w)).get? l = some ⟨.type "list", od, .seq xs m, os⟩ := Heap.get?_push_of_some _ ho
    have b1 := F.sub_list_set; have b2 := F.sub_list_frozenset; have b3 : (Value.type "list" == Value.type "dict") = false := by decide
    have hl1 : (s.heap.push (nset w)).IsList l xs := ⟨_, ho1, rfl, m, rfl⟩
    unfold Builtin.«set.__init__» noKeywords Builtin.Frozenset.updateFrom
    generalize hI : pyIter = PI
    wp_walk
    subst hI
    refine wpAny_pyIter_list hl1 (wpAny_bind (wpAny_runValue ?_))
    have lS : l < s.heap.objs.size := Heap.lt_size ho
    have d3 : A.in1.in1.in1.handled = none := by simp [hd]
    have e1 : (s.heap.push (nset w)).objs.size = s.heap.objs.size + 1 := Heap.size_push ..
    have lI : l ≠ (s.heap.push (nset w)).objs.size := by rw [e1]; exact Nat.ne_of_lt (Nat.lt_succ_of_lt lS)
    have nf : s.heap.objs.size ∉ [(s.heap.push (nset w)).objs.size, l] := by
      rw [e1]; intro z
      rcases List.mem_cons.mp z with q | q
      · exact absurd q (Nat.ne_of_lt (Nat.lt_succ_self _))
      · exact absurd (List.mem_singleton.mp q) (Nat.ne_of_gt lS)
    have vs : ∀ (i : Nat) (v : Value), xs[i]? = some v → ∃ k t, ns[i]? = some k ∧ v = .int k t := fun i v hv => by
      have il : i < ns.length := nl ▸ (Array.getElem?_eq_some_iff.mp hv).1
      obtain ⟨t, e⟩ := hi.int_at i v (by simpa using hv)
      exact ⟨ns[i], t, List.getElem?_eq_getElem il, by rw [e, List.getD_eq_getElem?_getD, List.getElem?_eq_getElem il]; rfl⟩
    refine set_update_ints ((Walks.list d3 _ l lI xs).toS) s.heap.objs.size nf ns nl hz vs (xs.size - 0) 0 _ (by omega) (Nat.zero_le _) ⟨⟨_, Heap.get?_push_size _ rfl, rfl, rfl⟩, hl1.push _⟩ ⟨0, Nat.le_refl 0, setR_new_at (Heap.get?_push_of_some _ gS)⟩ ?_
    intro s3 c3 hm hc3 hS3
    obtain ⟨h3, g3, dr3, tk3, o3⟩ := s3
    have q1 : g3 = s.gens := hm.gens; have q2 : dr3 = s.drawn := hm.drawn; have q3 : o3 = s.os := hm.os
    subst q1; subst q2; subst q3
    refine (show wpAny _ _ _ _ _ _ from wpAny_pure (show wpAny _ _ (ret Value.none) _ _ _ from wpAny_pure ⟨rfl, h3, tk3, c3, rfl, hS3, nl ▸ hc3, fun b o e => ?_⟩))
    have bl : b < s.heap.objs.size := Heap.lt_size e
    refine hm.heap b o ?_ (Heap.get?_push_of_some _ (Heap.get?_push_of_some _ e))
    rw [e1]
    intro z
    rcases List.mem_cons.mp z with q | q
    · exact absurd q (Nat.ne_of_lt bl)
    · exact absurd (List.mem_singleton.mp q) (Nat.ne_of_lt (Nat.lt_succ_of_lt bl))
  · rcases r2 with e | fl
    · exact hr2
    rcases fl with _ | _ | _ | v
    all_goals first | exact hr2.elim | skip
    obtain ⟨rfl, h1, tk, c, rfl, hS, hc, hk⟩ := hr2
    repeat (any_goals (first | assumption | wp_step))
    exact k _ _ _ hS hc hk
end
section
variable {X : Cx}
/-- sorted(set(xs)) -/
def tSortSet (K : PySem.W.Frag) (ta : TE) : TE := fun σ H Q => ta σ H fun x H1 => ∃ (l : Addr) (ns : List Int), x = V.ref l ∧ SqL K H1 l (ns.map V.int) ∧ ns.length < 64 ∧ ∀ ms : List Int, ms.Pairwise (· < ·) → (∀ k, k ∈ ms ↔ k ∈ ns) → New (.lst (ms.map V.int)) H1 Q
theorem pe_sortSet {a : Expr} {ta : TE} {p p2 q pos : Pos} (hg : Gl X "sorted") (hm : X.mg "sorted" = none) (hg2 : Gl X "set") (hm2 : X.mg "set" = none) (ha : PE X a ta) (hc : X.calm = true := by rfl)
    (na : starEach [a] X.env = (false, eval a X.env) :: starEach [] X.env := by rfl) : PE X (.Call (.Name "sorted" p) [.Call (.Name "set" p2) [a] [] q] [] pos) (tSortSet X.K ta) := by
  refine ⟨fun pins s σ H Q I h => ?_⟩
  refine Call_ (ld_blt I hg hm (show bootBuiltins "sorted" = some (.builtin "sorted") by decide +kernel) (PyProof.Rows.callWith_builtin1 (PyProof.Rows.args_cons ?_ rfl) rfl rfl))
  refine Call_ (ld_blt I hg2 hm2 PyProof.Rows.boot_set (PyProof.Rows.callWith_type1 (PyProof.Rows.args_cons (thn (ha.run pins s σ H _ I h) fun v s1 ⟨x, H1, I1, r1, q1⟩ => PyProof.Rows.args_nil ?_) na) na rfl))
  obtain ⟨l, ns, rfl, hq, hz, q1⟩ := q1
  cases r1
  obtain ⟨its, r, pl, _⟩ := I1.list hq
  have hlen : its.length = ns.length := by rw [← r.length, List.length_map]
  refine call_set_lst ns (I1.ok.hd hc) pl.isList (by simpa using r.ints) (by unfold scanBound; omega) fun h1 tk c hS hc1 hk => ?_
  refine PyProof.Rows.args_nil ?_
  have I2 : Inv X pins σ H1 { s1 with heap := h1, toks := tk } := I1.kept hk
  refine sorted_set hS (I2.ok.hd hc) (by omega) fun s' p' out c' ms kp g o hp hgt hi hs hmem hl => ?_
  have ml : (ms.map V.int).length ≤ sizeLine := by rw [List.length_map, hl]; exact Nat.le_trans (show _ ≤ 64 by omega) (by decide)
  have hn : H1 p' = none := I2.hok.fresh hp
  have J : Inv X pins σ (upd H1 p' (.lst (ms.map V.int))) { ({ s1 with heap := h1, toks := tk } : Shared) with heap := s'.heap, gens := s'.gens, drawn := s'.drawn, toks := s'.toks } :=
    I2.call (ch := []) (Un.laid kp hp hn) (I2.hok.laid kp hp ⟨ml, out.toList, c', vals_of_ints hi, hgt⟩) (by rw [g]; exact I2.bare) (fun _ z => nomatch z)
  have e : s' = { ({ s1 with heap := h1, toks := tk } : Shared) with heap := s'.heap, gens := s'.gens, drawn := s'.drawn, toks := s'.toks } := by
    obtain ⟨_, _, _, _, _⟩ := s'
    cases o
    rfl
  rw [e]
  exact ⟨.ref p', _, J, rfl, (q1 ms hs (fun k => by rw [hmem]; simp)).go p' hn⟩
theorem u65 {k : Nat} {A : Around} (r : Room k A) : A.units + 65 < cLine := by have := r.un; omega
/-- x in xs, x not in xs of nested data -/
def rInD (neg : Bool) (K : PySem.W.Frag) : R2 := fun x y H Q => ∃ d ds, Dp K H x d ∧ Dp K H y (.list ds) ∧ SeqAt.shaped d = true ∧ SeqAt.shaped (.list ds) = true ∧ Q (.bl (if neg = true then !(ds.any fun e => PyData.eqv e d) else ds.any fun e => PyData.eqv e d)) H
theorem op_inD (hu : X.A.units + 65 < cLine) : OpR X (compareOp .In) (rInD false X.K) := by
  intro pins s σ H x y v u Q I rx ry ⟨d, ds, hd, he, sd, se, q⟩
  obtain ⟨as, r1⟩ := Dp.reads I d x v hd rx
  obtain ⟨bs, r2⟩ := Dp.reads I _ y u he ry
  exact in_list_reads r2 r1 (canLay_of_shaped se) (canLay_of_shaped sd) (room_in_shaped sd hu) ⟨.bl _, H, I, rfl, q⟩
theorem op_notInD (hu : X.A.units + 65 < cLine) : OpR X (compareOp .NotIn) (rInD true X.K) := by
  intro pins s σ H x y v u Q I rx ry ⟨d, ds, hd, he, sd, se, q⟩
  obtain ⟨as, r1⟩ := Dp.reads I d x v hd rx
  obtain ⟨bs, r2⟩ := Dp.reads I _ y u he ry
  exact notIn_list_reads r2 r1 (canLay_of_shaped se) (canLay_of_shaped sd) (room_in_shaped sd hu) ⟨.bl _, H, I, rfl, q⟩
variable {CX : CXT} {n : Nat} {f C : Addr} {fd : FuncData} {ps : List Str} {sp : Sp} {E : XK}
/-- a + b of an own class -/
def rAddO (C : Addr) (sp : Sp) (E : XK) : R2 := fun x y H Q => ∃ a b dx fs dy gs, x = .ref a ∧ y = .ref b ∧ H a = some (.ins C dx fs) ∧ H b = some (.ins C dy gs) ∧ sp [.ref a, .ref b] H (fun v H' => ∃ r, v = .ref r ∧ Q (.ref r) H') E
theorem op_addO (F : FnOk X.prog X.w X.K X.mg X.base CX n f fd ps sp) (hr : Room n X.A) (hs : PySem.W.findIn X.K (.ref C) "__add__" = some (some (.ref f))) (hf : PySem.W.isFn X.K (.ref f) = true) (hc : PySem.W.selfFirst X.K C = true) (hb : Binds X.K fd ps []) (hx : Passes CX X E) : OpR X (binaryOp .Add) (rAddO C sp E) := by
  intro pins s σ H x y v u Q I rx ry h
  obtain ⟨a, b, dx, fs, dy, gs, rfl, rfl, ha, hb', h⟩ := h
  cases rx
  cases ry
  obtain ⟨mA, J, _⟩ := ins_get I.hok ha
  obtain ⟨mB, J', _⟩ := ins_get I.hok hb'
  obtain ⟨od, J, _⟩ := J.look
  obtain ⟨od', J', _⟩ := J'.look
  obtain ⟨m, hF⟩ := I.fr
  refine PySem.W.binop_K (op := .Add) hF I.ok.mod.kin J J'.type hc hs hf ?_
  refine wpAny_mono (run_here (vs := [V.ref a, V.ref b]) F hr hb hx I (.cons rfl (.cons rfl .nil)) h) (fun u s' z => ?_) fun _ _ e => e
  obtain ⟨v, H', I', rv, r, rfl, q⟩ := z
  cases rv
  exact ⟨.ref r, H', I', rfl, q⟩
end
end My
set_option Elab.async false
set_option linter.all false
set_option maxRecDepth 100000
set_option maxHeartbeats 4000000
/-! [x for x in xs if t], xs a list of ints. -/
namespace My
open PySem PySem.Spec PyProof.Rows L2
theorem mapI_at {ts : List Int} {i : Nat} {x : V} (h : (ts.map V.int)[i]? = some x) : ∃ t, ts[i]? = some t ∧ x = V.int t := by
  rw [List.getElem?_map] at h
  cases q : ts[i]? with
  | none => rw [q] at h; cases h
  | some t => rw [q] at h; cases h; exact ⟨t, rfl, rfl⟩
theorem lc_filtI {K : PySem.W.Frag} {a : Addr} {ns : List Int} {p : Int → Bool} {j : Nat} {tt : TT} {te : TE} {vs : List Nat} {σ : L2.St} {H1 : Hp} {D : Addr} {Qd : Hp → Prop} (hx : SqL K H1 a (ns.map V.int)) (hD : H1 D = none) (hz : ns.length ≤ 1000)
    (hw : ∀ x, wipe ((wipe σ vs).set j (some x)) vs = wipe σ vs)
    (ht : ∀ n H', n ∈ ns → Ex H1 H' → ∀ R : Bool → Hp → Prop, (∀ H2, Ex H' H2 → R (p n) H2) → tt ((wipe σ vs).set j (some (.int n))) H' R)
    (he : ∀ n H' (N : VK), N (.int n) H' → te ((wipe σ vs).set j (some (.int n))) H' N)
    (k : ∀ H', Ex H1 H' → H' D = some (.lst ((ns.filter p).map V.int)) → Qd H') :
    ∃ W : Nat → Nat → Hp → Prop, (∃ m, W 0 m (upd H1 D (.lst []))) ∧ ∀ i m H, W i m H →
      ((Itl K a).stop i H ∧ Qd H) ∨ ((Itl K a).go i H ∧ ∃ Nx : Hp → Prop, (∀ H', Nx H' → ∃ m', m' < m ∧ W (i + 1) m' H') ∧ ∀ x H', (Itl K a).yld i H x H' → gName j x (wipe σ vs) H' fun σ2 H2 => wipe σ2 vs = wipe σ vs ∧ tt σ2 H2 fun b H3 =>
        if b = true then te σ2 H3 fun y H4 => ∃ acc, H4 D = some (.lst acc) ∧ acc.length < sizeLine ∧ Nx (upd H4 D (.lst (acc ++ [y]))) else Nx H3) := by
  refine lc_it (walk_list (K := K) (a := a) (xs := ns.map V.int)) (fun i H' => Ex H1 H' ∧ H' D = some (.lst (((ns.take i).filter p).map V.int))) ⟨Evl.Ex.new hD, upd_same⟩ (fun i H' _ z => Evl.ex_l z.1 hx) ?_ ?_
  · rintro i v HX H3 hi ⟨e3, d3⟩ ⟨rfl, hv⟩
    obtain ⟨n, hn, rfl⟩ := mapI_at hv
    rw [List.length_map] at hi
    refine ⟨hw _, ?_⟩
    show tt ((wipe σ vs).set j (some (.int n))) _ _
    refine ht n _ (List.mem_of_getElem? hn) e3 _ fun H4 e4 => ?_
    rw [take_snoc hn, List.filter_append, List.filter_cons]
    cases q : p n with
    | true =>
      refine iteT (he n _ _ ⟨_, e4 _ _ d3, ?_, Evl.Ex.mut (e3.trans e4) hD, ?_⟩)
      · rw [List.length_map]
        refine Nat.lt_of_le_of_lt (List.length_filter_le _ _) ?_
        rw [List.length_take]
        exact Nat.lt_of_le_of_lt (show _ ≤ 1000 by omega) (by decide)
      · rw [upd_same, List.map_append]
        rfl
    | false =>
      refine iteF ⟨e3.trans e4, ?_⟩
      rw [e4 _ _ d3]
      simp
  · rintro H' ⟨e', d'⟩
    rw [List.length_map, List.take_length] at d'
    exact k H' e' d'
end My
namespace My
open PySem PySem.Spec PyProof.Rows L2
/-- a walk within a comprehension -/
theorem piK {X : Cx} {K : PySem.W.Frag} {r : PySem.W.Frag → TE → TI} {tg it : Expr} {tl : TE} (h : X.K = K) (p : PI X tg it (r X.K tl)) : PI X tg it (r K tl) := h ▸ p
/-- lists of lists of ints, sorted -/
def srtL (L : List (List Int)) : List (List Int) := L.mergeSort (PySem.W.dataLe false (eL PyData.int))
theorem rowsLe : PySem.W.dataLe false (eL PyData.int : List Int → PyData) = fun p q => decide (p ≤ q) := PySem.W.dataLe_rows (β := List Int) id
theorem srtL_congr {A B : List (List Int)} (h : A.Perm B) : srtL A = srtL B := by
  unfold srtL
  rw [rowsLe]
  have pw : ∀ L : List (List Int), (L.mergeSort (fun p q => decide (p ≤ q))).Pairwise (· ≤ ·) := fun L => by
    have := List.pairwise_mergeSort (le := fun (p q : List Int) => decide (p ≤ q)) (fun a b c h1 h2 => by simp at *; exact List.le_trans h1 h2) (fun a b => by simpa using List.le_total a b) L
    exact this.imp fun h => by simpa using h
  exact List.Perm.eq_of_pairwise (le := (· ≤ ·)) (fun a b _ _ h1 h2 => List.le_antisymm h1 h2) (pw A) (pw B) ((List.mergeSort_perm _ _).trans (h.trans (List.mergeSort_perm _ _).symm))
theorem srtL_len (L : List (List Int)) : (srtL L).length = L.length := List.length_mergeSort ..
theorem inD_mem {α : Type} [DecidableEq α] {e : α → PyData} {n : Nat} (g : Good e n) (x : α) (L : List α) : ((L.map e).any fun d => PyData.eqv d (e x)) = decide (x ∈ L) := by
  rw [List.any_map, Bool.eq_iff_iff, List.any_eq_true, decide_eq_true_eq]
  constructor
  · rintro ⟨y, hy, h⟩
    have h : PyData.eqv (e y) (e x) = true := h
    rw [g.eqv] at h
    exact of_decide_eq_true h ▸ hy
  · intro h
    exact ⟨x, h, by show PyData.eqv (e x) (e x) = true; rw [g.eqv]; exact decide_eq_true rfl⟩
theorem alikeLs (cs : List (List Int)) : PySem.W.AllAlike (cs.map (eL PyData.int)) := PySem.W.AllAlike.of fun b b' => by
  unfold eL
  rw [PySem.W.alike]
  exact PySem.W.alike_ints b b'
theorem sortLs (cs : List (List Int)) : PySem.W.Sortable (cs.map (eL PyData.int)) := PySem.W.Sortable.others fun b => ⟨(by intro z; cases z), (by intro xs z; cases z)⟩
theorem depLs (cs : List (List Int)) : ∀ d ∈ cs.map (eL PyData.int), d.depth ≤ 60 := fun d hd => by
  obtain ⟨c, _, rfl⟩ := List.mem_map.mp hd
  have := (goodL goodI).dep c
  omega
end My
set_option Elab.async false
set_option linter.all false
set_option maxRecDepth 100000
set_option maxHeartbeats 4000000
/-! enumerate of a tuple. -/
namespace My
open PySem PySem.Spec PyProof.Rows L2
set_option maxHeartbeats 1000000 in
theorem meets_enumerate_newT (l : Addr) (items : Array Value) :
    Meets (Builtin.«enumerate.__new__» ⟨[.type "enumerate", .ref l], []⟩) (fun _ R s => s.heap.IsTuple l items ∧
      R (.ok (.ret (.ref (s.heap.push { cls := .type "tuple_iterator", data := .fields #[.ref l, .int 0 0] }).objs.size)))
        { s with heap := (s.heap.push { cls := .type "tuple_iterator", data := .fields #[.ref l, .int 0 0] }).push { cls := .type "enumerate", data := .fields #[.none, .bool false, .ref s.heap.objs.size, rawInt 0, .none, .none] } }) :=
  .of_wp fun prog w A R s h => by
    obtain ⟨hp, g, d, tk, os⟩ := s; obtain ⟨h1, h⟩ := h
    have hsub := sub_enumerate
    have q1 : ∀ {A' : Around} {E : Value → Shared → Prop} {Q : Value → Shared → Prop}, Q (.ref hp.objs.size) ⟨hp.push { cls := .type "tuple_iterator", data := .fields #[.ref l, .int 0 0] }, g, d, tk, os⟩ → wpAny (model prog w) A' (pyIter (.ref l)) Q E ⟨hp, g, d, tk, os⟩ :=
      fun q => (begins_tuple l items).iter prog w _ _ ⟨hp, g, d, tk, os⟩ _ h1 q
    wp_walk using q1
    refine wpAny_stack_any fun st => wpAny_pure ?_
    split
    · rename_i c _ _ _ _ _
      cases (c == Value.type "enumerate")
      · wp_walk using q1
        exact ⟨_, rfl, h⟩
      · wp_walk using q1
        exact ⟨_, rfl, h⟩
    · wp_walk using q1
      exact ⟨_, rfl, h⟩
section
variable {prog : Program} {w : World} {A : Around} {E : Value → Shared → Prop} {s : Shared}
theorem call_enumerate_tuple {l : Addr} {items : Array Value} {Q : Value → Shared → Prop} (hL : s.heap.IsTuple l items)
    (h : ∀ h', IsEnum h' (s.heap.objs.size + 1) s.heap.objs.size 0 .none → h'.IsTupleIter s.heap.objs.size l 0 → h'.objs.size = s.heap.objs.size + 2 →
      (∀ b o, s.heap.get? b = some o → h'.get? b = some o) → Q (.ref (s.heap.objs.size + 1)) { s with heap := h' }) :
    wpAny (model prog w) A (call (.type "enumerate") [.ref l]) Q E s := by
  refine callType_new F.called_enumerate (by decide) (F.typeCall_enumerate_1 _) (F.newCall_enumerate_1 _) (fun obj => F.args_object_init_2 obj _) F.entry_enumerate_new
    (meets_enumerate_newT l items) ⟨hL, ?_⟩
  have hz : (s.heap.push { cls := .type "tuple_iterator", data := .fields #[.ref l, .int 0 0] }).objs.size = s.heap.objs.size + 1 := Heap.size_push ..
  show _ ∧ _
  rw [hz]
  have he : IsEnum ((s.heap.push { cls := .type "tuple_iterator", data := .fields #[.ref l, .int 0 0] }).push
      { cls := .type "enumerate", data := .fields #[.none, .bool false, .ref s.heap.objs.size, rawInt 0, .none, .none] }) (s.heap.objs.size + 1) s.heap.objs.size 0 .none := by
    have := Heap.get?_push_size (s.heap.push { cls := .type "tuple_iterator", data := .fields #[.ref l, .int 0 0] })
      (o := { cls := .type "enumerate", data := .fields #[.none, .bool false, .ref s.heap.objs.size, rawInt 0, .none, .none] }) rfl
    rw [hz] at this; exact this
  refine ⟨⟨_, he, rfl⟩, h _ he ⟨_, Heap.get?_push_of_some _ (Heap.get?_push_size _ rfl), rfl, rfl⟩ (by rw [Heap.size_push, hz]) fun b o x => Heap.get?_push_of_some _ (Heap.get?_push_of_some _ x)⟩
end
/-- the tuple at a as it stands at each turn, each item in a new pair -/
def Itet (K : PySem.W.Frag) (a : Addr) : It :=
  ⟨fun i H => ∃ (xs : List V) (x : V), SqT K H a xs ∧ xs[i]? = some x, fun i H v H' => ∃ T x, v = .ref T ∧ H T = none ∧ H' = upd H T (.tup [.int (i : Nat), x]) ∧ ∀ xs, SqT K H a xs → xs[i]? = some x, fun i H => ∃ xs : List V, SqT K H a xs ∧ xs.length = i⟩
theorem tup_apart {h : Heap} {e it a : Addr} {items : Array Value} {n : Int} {old : Value} {i : Nat} (he : IsEnum h e it n old) (hit : h.IsTupleIter it a i) (p : h.IsTuple a items) : a ≠ it ∧ a ≠ e := by
  obtain ⟨o, ho, hc, _⟩ := p
  obtain ⟨o2, ho2, hc2, _⟩ := hit
  refine ⟨fun z => ?_, fun z => ?_⟩
  · subst z
    rw [ho] at ho2
    cases ho2
    rw [hc] at hc2
    exact absurd hc2 (by decide)
  · subst z
    have he : h.get? a = _ := he
    rw [ho] at he
    cases he
    exact absurd (show Value.type "enumerate" = Value.type "tuple" from hc) (by decide)
theorem turn_enumT {P : Program} {w : World} {K : PySem.W.Frag} {elts : List Expr} {kk : Nat} {tpos : Pos} (a e it : Addr) :
    Turn P w K (.Tuple elts kk tpos) (Itet K a) [e, it] e (fun i h => (∃ old, IsEnum h e it ((i : Nat) : Int) old) ∧ h.IsTupleIter it a i ∧ e ≠ it) where
  mem := by simp
  obj := fun i h st b hb => by
    obtain ⟨⟨old, he⟩, ⟨o, ho, hc, hd⟩, _⟩ := st
    have e' : b = e ∨ b = it := by simpa using hb
    rcases e' with z | z
    · rw [z]; exact ⟨_, he, fun v q => nomatch q⟩
    · rw [z]; exact ⟨o, ho, fun v q => by rw [hd] at q; cases q⟩
  keep := fun i h h' st k => let ⟨⟨old, he⟩, hi, hne⟩ := st; ⟨⟨old, k e (by simp) _ he⟩, hi.at fun o q => k it (by simp) o q, hne⟩
  item := by
    intro X hP hw hK hc i pins s σ H E I hf st hg
    subst hP hw hK
    obtain ⟨⟨old, he⟩, hit, hne⟩ := st
    obtain ⟨xs, x, hq, hx⟩ := hg
    obtain ⟨its, rv, p, hz⟩ := I.tuple hq
    obtain ⟨u, hu, ru⟩ := rv.get hx
    have hel : e < s.heap.objs.size := Heap.lt_size he
    have hil : it < s.heap.objs.size := by obtain ⟨_, q, _⟩ := hit; exact Heap.lt_size q
    obtain ⟨na1, na2⟩ := tup_apart he hit p
    have hlt : i < its.toArray.size := by
      rw [List.size_toArray]
      exact (List.getElem?_eq_some_iff.mp hu).1
    refine wpAny_pyNext_enum_itemC (Draws.tuple (show X.A.in1.handled = none from I.ok.hd hc) it a na1 its.toArray) he ⟨hit, p⟩ hlt hne (by simp [hne, na2.symm]) fun x' h' tk hP ho hst' hT hsz hk => ?_
    have ex : x' = u := by
      have hP : its.toArray[i]? = some x' := hP
      simp only [List.getElem?_toArray] at hP
      rw [hu] at hP
      exact (Option.some.inj hP).symm
    subst ex
    refine ⟨_, rfl, wpAny_letOwnedTupleGo_enum (s := { s with heap := h', toks := tk + 1 }) ho fun h'' he' sb => ?_⟩
    have hT2 : h''.get? s.heap.objs.size = some { cls := .type "tuple", data := .seq #[.int i tk, x'] } := (sb.2 _ (Nat.ne_of_gt hel)).trans hT
    have new : ObjOk X.prog X.w (upd H s.heap.objs.size (.tup [.int (i : Nat), x])) h'' s.heap.objs.size (.tup [.int (i : Nat), x]) :=
      ⟨by show 2 ≤ sizeLine; decide, [.int i tk, x'], .cons ⟨_, rfl⟩ (.cons ru .nil), ⟨_, hT2, rfl, _, rfl⟩⟩
    have I1 : Inv X pins σ (upd H s.heap.objs.size (.tup [.int (i : Nat), x])) { s with heap := h'', toks := tk + 1 } :=
      I.turnedNew (ch := [e, it]) (fun b ob hb q => (sb.2 b (fun z => hb (by simp [z]))).trans (hk b ob (fun z => hb (by simp [z])) (fun z => hb (by simp [z])) q)) hf (Nat.le_refl _) new
    refine ⟨.ref s.heap.objs.size, _, I1, rfl, ⟨_, x, rfl, I.hok.fresh (Nat.le_refl _), rfl, fun ys hy => by rw [I.tuple_inj hy hq]; exact hx⟩, ⟨⟨x', ?_⟩, hst'.1.at fun o q => (sb.2 it (Ne.symm hne)).trans q, hne⟩, fun b hb => ?_⟩
    · have e1 : ((i + 1 : Nat) : Int) = (i : Int) + 1 := by omega
      rw [e1]; exact he'
    · have hb' : b < s.heap.objs.size := by
        have e' : b = e ∨ b = it := by simpa using hb
        rcases e' with z | z
        · rw [z]; exact hel
        · rw [z]; exact hil
      rw [upd_ne (Nat.ne_of_lt hb')]
      exact (hf b hb).1
  done := by
    intro X hP hw hK hc i pins s σ H E I hf st hg
    subst hP hw hK
    obtain ⟨⟨old, he⟩, hit, hne⟩ := st
    obtain ⟨xs, hq, hx⟩ := hg
    obtain ⟨its, rv, p, hz⟩ := I.tuple hq
    obtain ⟨f0, f1, f2, f3, f4, f5⟩ := hf it (by simp)
    have hl := rv.length
    obtain ⟨na1, na2⟩ := tup_apart he hit p
    have en : i = its.toArray.size := by
      rw [List.size_toArray]
      omega
    subst en
    exact wpAny_pyNext_enum_endD (Draws.tuple (show X.A.in1.handled = none from I.ok.hd hc) it a na1 its.toArray) he ⟨hit, p⟩ fun h' eb => ⟨rfl, I.turned (t' := s.toks) (fun b o hb q => eb b o hb q) f0 f1 f3 f4 f5⟩
  self := fun A i s Q E st h => let ⟨⟨_, he⟩, _⟩ := st; wpAny_pyIter_enum he h
def iEnumT (K : PySem.W.Frag) (ta : TA) : TI := fun σ H R => ta σ H fun vs H1 => ∃ a xs, vs = [.ref a] ∧ SqT K H1 a xs ∧ R (Itet K a) H1
theorem pi_enumT {X : Cx} {e : Expr} {ta : TA} {p pos tpos : Pos} {elts : List Expr} {kk : Nat} (hg : Gl X "enumerate") (hm : X.mg "enumerate" = none) (ha : PA X [e] ta) (hs : starEach [e] X.env = [(false, eval e X.env)] := by rfl) :
    PI X (.Tuple elts kk tpos) (.Call (.Name "enumerate" p) [e] [] pos) (iEnumT X.K ta) := by
  refine ⟨fun pins s σ H R I h => ?_⟩
  refine Call_ (ld_blt I hg hm boot_enumerate (PyProof.Rows.callWith_type1 (thn (ha.run pos pins s σ H _ I h) fun us s1 ⟨vs, H1, I1, r1, q1⟩ => ?_) hs rfl))
  obtain ⟨a, xs, ex, hq, q⟩ := q1
  subst ex
  cases r1 with
  | cons r rr =>
    cases rr
    cases r
    obtain ⟨its, rv, p', hz⟩ := I1.tuple hq
    refine call_enumerate_tuple p' fun h' he hit hsz hk => wpAny_pyIter_enum he ?_
    have I2 : Inv X pins σ H1 { s1 with heap := h' } := I1.kept (t' := s1.toks) hk
    refine ⟨s1.heap.objs.size + 1, [s1.heap.objs.size + 1, s1.heap.objs.size], _, _, H1, rfl, I2, turn_enumT a (s1.heap.objs.size + 1) s1.heap.objs.size, ⟨⟨.none, he⟩, hit, Nat.succ_ne_self _⟩, fun b hb => ?_, q⟩
    have e' : b = s1.heap.objs.size + 1 ∨ b = s1.heap.objs.size := by simpa using hb
    have hle : s1.heap.objs.size ≤ b := by
      rcases e' with z | z
      · rw [z]; exact Nat.le_add_right _ _
      · rw [z]; exact Nat.le_refl _
    exact I1.fpOk hle (I1.hok.fresh hle)
theorem walk_enumT {K : PySem.W.Frag} {a : Addr} {xs : List V} : Walk (Itet K a) xs.length (fun H => SqT K H a xs) (YPair (fun i => some (.int (i : Nat))) (fun i => xs[i]?)) := by
  refine ⟨fun i _ hi q => ⟨xs, xs[i], q, by simp [hi]⟩, fun _ q => ⟨xs, q, rfl⟩, fun i H v H' _ q y => ?_⟩
  obtain ⟨T, x, h1, h2, h3, h4⟩ := y
  exact ⟨T, .int (i : Nat), x, h1, h2, h3, rfl, h4 xs q⟩
end My
set_option Elab.async false
set_option linter.all false
set_option maxRecDepth 100000
set_option maxHeartbeats 4000000
/-! len(set(xs)) of a list of ints with doubles. -/
namespace My
open PySem PySem.Spec PyProof.Rows L2
/-- so many different ones -/
def Diff (ns : List Int) (c : Nat) : Prop := ∃ ms : List Int, ms.Nodup ∧ (∀ k, k ∈ ms ↔ k ∈ ns) ∧ ms.length = c
def tLenSetG (K : PySem.W.Frag) (ta : TE) : TE := fun σ H Q => ta σ H fun x H1 => ∃ (l : Addr) (ns : List Int), x = V.ref l ∧ SqL K H1 l (ns.map V.int) ∧ ns.length ≤ 2000 ∧ ∀ c : Nat, Diff ns c → Q (.int (c : Nat)) H1
theorem pe_lenSetG {X : Cx} {a : Expr} {ta : TE} {p p2 q pos : Pos} (hg : Gl X "len") (hm : X.mg "len" = none) (hg2 : Gl X "set") (hm2 : X.mg "set" = none) (ha : PE X a ta) (hc : X.calm = true := by rfl)
    (na : starEach [a] X.env = (false, eval a X.env) :: starEach [] X.env := by rfl) : PE X (.Call (.Name "len" p) [.Call (.Name "set" p2) [a] [] q] [] pos) (tLenSetG X.K ta) := by
  refine ⟨fun pins s σ H Q I h => ?_⟩
  refine Call_ (ld_blt I hg hm boot_len ?_)
  refine PyProof.Rows.callWith_builtin1 (PyProof.Rows.args_cons ?_ rfl) rfl rfl
  refine Call_ (ld_blt I hg2 hm2 PyProof.Rows.boot_set ?_)
  refine PyProof.Rows.callWith_type1 (PyProof.Rows.args_cons (thn (ha.run pins s σ H _ I h) fun v s1 ⟨x, H1, I1, r1, q1⟩ => PyProof.Rows.args_nil ?_) na) na rfl
  obtain ⟨l, ns, rfl, hq, hz, q1⟩ := q1
  cases r1
  obtain ⟨its, r, pl, _⟩ := I1.list hq
  refine call_set_lst ns (I1.ok.hd hc) pl.isList (by simpa using r.ints) (by unfold scanBound; omega) fun h1 tk c hS hc1 hk => ?_
  refine PyProof.Rows.args_nil ?_
  obtain ⟨o, es, ep, t, ho, hex, hd, _, hnd, hS2, _, hf, hn, _⟩ := hS
  have I2 : Inv X pins σ H1 { s1 with heap := h1, toks := tk } := I1.kept hk
  refine call_len_set ho hex hd hf (by rw [hn]; omega) ⟨.int c, H1, I2.tok _, ⟨_, by rw [hn]⟩, q1 c ⟨es.toList.map keyOf, hnd, fun k => ?_, ?_⟩⟩
  · rw [← hS2 k]
    simp
  · rw [List.length_map, Array.length_toList]
    exact hn
theorem diff_nodup {ns : List Int} {c : Nat} (h : Diff ns c) : c = ns.length ↔ ns.Nodup := by
  obtain ⟨ms, h1, h2, h3⟩ := h
  subst h3
  constructor
  · intro e
    -- ms is nodup, the same members, as long: ns has no doubles
    have : ∀ {ns ms : List Int}, ms.Nodup → (∀ k, k ∈ ms → k ∈ ns) → ns.length ≤ ms.length → ns.Nodup := fun {ns} => by
      induction ns with
      | nil => intro ms _ _ _; exact List.nodup_nil
      | cons x ns ih =>
        intro ms hm hs hl
        have h0 : x ∈ ms ∧ x ∉ ns := by
          by_cases a : x ∈ ms
          · refine ⟨a, fun b => ?_⟩
            have := nodup_len (l := ms) (m := ns) hm fun k hk => by
              rcases List.mem_cons.mp (hs k hk) with z | z
              · rw [z]; exact b
              · exact z
            rw [List.length_cons] at hl
            omega
          · exfalso
            have := nodup_len (l := ms) (m := ns) hm fun k hk => by
              rcases List.mem_cons.mp (hs k hk) with z | z
              · rw [z] at hk; exact absurd hk a
              · exact z
            rw [List.length_cons] at hl
            omega
        refine List.nodup_cons.mpr ⟨h0.2, ih (ms := ms.erase x) (hm.erase x) (fun k hk => ?_) ?_⟩
        · have hk' := List.mem_of_mem_erase hk
          rcases List.mem_cons.mp (hs k hk') with z | z
          · rw [z] at hk
            exact absurd hk (fun y => (List.Nodup.mem_erase_iff hm).mp y |>.1 rfl)
          · exact z
        · rw [List.length_erase_of_mem h0.1]
          rw [List.length_cons] at hl
          omega
    exact this h1 (fun k hk => (h2 k).mp hk) (by omega)
  · intro hn
    exact Nat.le_antisymm (nodup_len h1 fun k hk => (h2 k).mp hk) (nodup_len hn fun k hk => (h2 k).mpr hk)
end My
set_option Elab.async false
set_option linter.all false
set_option maxRecDepth 100000
set_option maxHeartbeats 4000000
/-! further comprehensions over lists: any target; kept objects. -/
namespace My
open PySem PySem.Spec PyProof.Rows L2
/-- no tests, any target, the values known -/
theorem lc_mapG {K : PySem.W.Frag} {a : Addr} {xs ys : List V} {g : TG} {te : TE} {vs : List Nat} {σ : L2.St} {H1 : Hp} {D : Addr} {Qd : Hp → Prop} (hx : SqL K H1 a xs) (hD : H1 D = none) (hl : ys.length = xs.length) (hz : xs.length ≤ sizeLine)
    (he : ∀ (i : Nat) x y H', Ex H1 H' → xs[i]? = some x → ys[i]? = some y → ∀ (N : VK) (Z : Hp → Prop), (∀ H2, Ex H' H2 → N y H2) → g x (wipe σ vs) H' fun σ2 H2 => wipe σ2 vs = wipe σ vs ∧ tYes σ2 H2 fun b H3 => if b = true then te σ2 H3 N else Z H3)
    (k : ∀ H', Ex H1 H' → H' D = some (.lst ys) → Qd H') :
    ∃ W : Nat → Nat → Hp → Prop, (∃ m, W 0 m (upd H1 D (.lst []))) ∧ ∀ i m H, W i m H →
      ((Itl K a).stop i H ∧ Qd H) ∨ ((Itl K a).go i H ∧ ∃ Nx : Hp → Prop, (∀ H', Nx H' → ∃ m', m' < m ∧ W (i + 1) m' H') ∧ ∀ x H', (Itl K a).yld i H x H' → g x (wipe σ vs) H' fun σ2 H2 => wipe σ2 vs = wipe σ vs ∧ tYes σ2 H2 fun b H3 =>
        if b = true then te σ2 H3 fun y H4 => ∃ acc, H4 D = some (.lst acc) ∧ acc.length < sizeLine ∧ Nx (upd H4 D (.lst (acc ++ [y]))) else Nx H3) := by
  refine lc_objL (R := fun _ v (y : V) => v = y) hx hD hl hz (fun _ _ _ _ r _ => r) (fun i x y H' e _ hx hy N Z kN => he i x y H' e hx hy N Z fun H2 e2 => kN y H2 e2 rfl) fun H' us e d r => k H' e ?_
  have : us = ys := by
    refine List.ext_getElem? fun i => ?_
    cases z : us[i]? with
    | none => rw [List.getElem?_eq_none (by rw [← r.1]; exact List.getElem?_eq_none_iff.mp z)]
    | some v =>
      obtain ⟨y, h1, h2⟩ := r.get z
      rw [h1, h2]
  rw [← this]
  exact d
/-- the items of which p holds, themselves -/
theorem lc_filtO {α : Type} {K : PySem.W.Frag} {a : Addr} {xs : List V} {ys : List α} {R : V → α → Prop} {p : α → Bool} {j : Nat} {tt : TT} {te : TE} {vs : List Nat} {σ : L2.St} {H1 : Hp} {D : Addr} {Qd : Hp → Prop} (hx : SqL K H1 a xs) (hR : AllR R xs ys) (hD : H1 D = none) (hz : xs.length ≤ 1000)
    (hw : ∀ x, wipe ((wipe σ vs).set j (some x)) vs = wipe σ vs)
    (ht : ∀ v y H', y ∈ ys → R v y → Ex H1 H' → ∀ Z : Bool → Hp → Prop, (∀ H2, Ex H' H2 → Z (p y) H2) → tt ((wipe σ vs).set j (some v)) H' Z)
    (he : ∀ v H' (N : VK), N v H' → te ((wipe σ vs).set j (some v)) H' N)
    (k : ∀ H' us, Ex H1 H' → H' D = some (.lst us) → AllR R us (ys.filter p) → Qd H') :
    ∃ W : Nat → Nat → Hp → Prop, (∃ m, W 0 m (upd H1 D (.lst []))) ∧ ∀ i m H, W i m H →
      ((Itl K a).stop i H ∧ Qd H) ∨ ((Itl K a).go i H ∧ ∃ Nx : Hp → Prop, (∀ H', Nx H' → ∃ m', m' < m ∧ W (i + 1) m' H') ∧ ∀ x H', (Itl K a).yld i H x H' → gName j x (wipe σ vs) H' fun σ2 H2 => wipe σ2 vs = wipe σ vs ∧ tt σ2 H2 fun b H3 =>
        if b = true then te σ2 H3 fun y H4 => ∃ acc, H4 D = some (.lst acc) ∧ acc.length < sizeLine ∧ Nx (upd H4 D (.lst (acc ++ [y]))) else Nx H3) := by
  refine lc_it (walk_list (K := K) (a := a) (xs := xs)) (fun i H' => ∃ us, Ex H1 H' ∧ H' D = some (.lst us) ∧ us.length ≤ i ∧ AllR R us ((ys.take i).filter p)) ⟨[], Evl.Ex.new hD, upd_same, Nat.le_refl _, AllR.nil⟩ (fun i H' _ ⟨_, e, _⟩ => Evl.ex_l e hx) ?_ ?_
  · rintro i v HX H3 hi ⟨us, e3, d3, l3, a3⟩ ⟨rfl, hv⟩
    obtain ⟨y, hy, r⟩ := hR.get hv
    refine ⟨hw _, ?_⟩
    show tt ((wipe σ vs).set j (some v)) _ _
    refine ht v y _ (List.mem_of_getElem? hy) r e3 _ fun H4 e4 => ?_
    rw [take_snoc hy, List.filter_append, List.filter_cons]
    cases q : p y with
    | true =>
      refine iteT (he v _ _ ⟨us, e4 _ _ d3, Nat.lt_of_le_of_lt (show _ ≤ 1000 by omega) (by decide), us ++ [v], Evl.Ex.mut (e3.trans e4) hD, upd_same, by simp; omega, ?_⟩)
      exact AllR.snoc a3 r
    | false =>
      refine iteF ⟨us, e3.trans e4, e4 _ _ d3, by omega, ?_⟩
      simpa using a3
  · rintro H' ⟨us, e', d', l', a'⟩
    rw [List.take_of_length_le (by rw [← hR.1]; exact Nat.le_refl _)] at a'
    exact k H' us e' d' a'
/-- ints of a range, with a test -/
theorem lc_filtR {lo : Int} {n : Nat} {p : Int → Bool} {j : Nat} {tt : TT} {te : TE} {vs : List Nat} {σ : L2.St} {H1 : Hp} {D : Addr} {Qd : Hp → Prop} (hD : H1 D = none) (hz : n ≤ 1000)
    (hw : ∀ x, wipe ((wipe σ vs).set j (some x)) vs = wipe σ vs)
    (ht : ∀ (i : Nat) H', i < n → Ex H1 H' → ∀ Z : Bool → Hp → Prop, (∀ H2, Ex H' H2 → Z (p (lo + i)) H2) → tt ((wipe σ vs).set j (some (.int (lo + i)))) H' Z)
    (he : ∀ v H' (N : VK), N v H' → te ((wipe σ vs).set j (some v)) H' N)
    (k : ∀ H', Ex H1 H' → H' D = some (.lst ((((List.range n).map fun i => lo + ((i : Nat) : Int)).filter p).map V.int)) → Qd H') :
    ∃ W : Nat → Nat → Hp → Prop, (∃ m, W 0 m (upd H1 D (.lst []))) ∧ ∀ i m H, W i m H →
      ((Itr lo n).stop i H ∧ Qd H) ∨ ((Itr lo n).go i H ∧ ∃ Nx : Hp → Prop, (∀ H', Nx H' → ∃ m', m' < m ∧ W (i + 1) m' H') ∧ ∀ x H', (Itr lo n).yld i H x H' → gName j x (wipe σ vs) H' fun σ2 H2 => wipe σ2 vs = wipe σ vs ∧ tt σ2 H2 fun b H3 =>
        if b = true then te σ2 H3 fun y H4 => ∃ acc, H4 D = some (.lst acc) ∧ acc.length < sizeLine ∧ Nx (upd H4 D (.lst (acc ++ [y]))) else Nx H3) := by
  refine lc_range (fun i H' => Ex H1 H' ∧ H' D = some (.lst ((((List.range i).map fun i => lo + ((i : Nat) : Int)).filter p).map V.int))) ⟨Evl.Ex.new hD, upd_same⟩ ?_ ?_
  · rintro i H3 hi ⟨e3, d3⟩
    refine ⟨hw _, ?_⟩
    show tt ((wipe σ vs).set j (some (.int (lo + i)))) _ _
    refine ht i _ hi e3 _ fun H4 e4 => ?_
    rw [List.range_succ, List.map_append, List.filter_append, List.map_cons, List.map_nil, List.filter_cons]
    cases q : p (lo + i) with
    | true =>
      refine iteT (he _ _ _ ⟨_, e4 _ _ d3, ?_, Evl.Ex.mut (e3.trans e4) hD, ?_⟩)
      · rw [List.length_map]
        refine Nat.lt_of_le_of_lt (List.length_filter_le _ _) ?_
        rw [List.length_map, List.length_range]
        exact Nat.lt_of_le_of_lt (show _ ≤ 1000 by omega) (by decide)
      · rw [upd_same, List.map_append]
        rfl
    | false =>
      refine iteF ⟨e3.trans e4, ?_⟩
      rw [e4 _ _ d3]
      simp
  · rintro H' ⟨e', d'⟩
    exact k H' e' d'
end My
set_option Elab.async false
set_option linter.all false
set_option maxRecDepth 100000
set_option maxHeartbeats 4000000
/-! comprehensions of two clauses -/
namespace My
open PySem PySem.Spec PyProof.Rows L2
/-- the inner clause, of which Nx holds behind -/
def Inn (D : Addr) (g1 : TG) (tt1 : TT) (te : TE) (σ2 : L2.St) (vs1 : List Nat) (J1 : It) (H4 : Hp) (Nx : Hp → Prop) : Prop := ∃ W1 : Nat → Nat → Hp → Prop, (∃ m, W1 0 m H4) ∧ ∀ j k H, W1 j k H →
  (J1.stop j H ∧ Nx H) ∨ (J1.go j H ∧ ∃ Nx1 : Hp → Prop, (∀ H', Nx1 H' → ∃ k', k' < k ∧ W1 (j + 1) k' H') ∧ ∀ x H', J1.yld j H x H' → g1 x (wipe σ2 vs1) H' fun σ3 H5 => wipe σ3 vs1 = wipe σ2 vs1 ∧ tt1 σ3 H5 fun b H6 =>
    if b = true then te σ3 H6 fun y H7 => ∃ acc, H7 D = some (.lst acc) ∧ acc.length < sizeLine ∧ Nx1 (upd H7 D (.lst (acc ++ [y]))) else Nx1 H6)
theorem lc2_in {J1 : It} {n1 : Nat} {G1 : Hp → Prop} {Y1 : Nat → Hp → V → Hp → Prop} (w : Walk J1 n1 G1 Y1) {D : Addr} {g1 : TG} {tt1 : TT} {te : TE} {σ2 : L2.St} {vs1 : List Nat} {H4 : Hp} {Nx : Hp → Prop} (Pv : Nat → Hp → Prop) (h0 : Pv 0 H4) (hG : ∀ i H, i ≤ n1 → Pv i H → G1 H)
    (hs : ∀ i x H H', i < n1 → Pv i H → Y1 i H x H' → g1 x (wipe σ2 vs1) H' fun σ3 H5 => wipe σ3 vs1 = wipe σ2 vs1 ∧ tt1 σ3 H5 fun b H6 =>
      if b = true then te σ3 H6 fun y H7 => ∃ acc, H7 D = some (.lst acc) ∧ acc.length < sizeLine ∧ Pv (i + 1) (upd H7 D (.lst (acc ++ [y]))) else Pv (i + 1) H6) (hd : ∀ H, Pv n1 H → Nx H) : Inn D g1 tt1 te σ2 vs1 J1 H4 Nx := by
  refine ⟨fun i m H => m = n1 - i ∧ i ≤ n1 ∧ Pv i H, ⟨n1, by simp, Nat.zero_le _, h0⟩, ?_⟩
  rintro i m H ⟨rfl, hi, p⟩
  have q := hG i H hi p
  by_cases hlt : i < n1
  · exact .inr ⟨w.goes i H hlt q, Pv (i + 1), fun H' p' => ⟨n1 - (i + 1), by omega, rfl, hlt, p'⟩, fun x H' y => hs i x H H' hlt p (w.yields i H x H' hlt q y)⟩
  · have e : i = n1 := by omega
    subst e
    exact .inl ⟨w.stops H q, hd H p⟩
theorem lc2_out {J : It} {n : Nat} {G : Hp → Prop} {Y : Nat → Hp → V → Hp → Prop} (w : Walk J n G Y) {g : TG} {tt : TT} {wi1 : TI} {g1 : TG} {tt1 : TT} {te : TE} {vs vs1 : List Nat} {σ : L2.St} {H1 : Hp} {D : Addr} {Qd : Hp → Prop} (Pv : Nat → Hp → Prop) (h0 : Pv 0 (upd H1 D (.lst []))) (hG : ∀ i H, i ≤ n → Pv i H → G H)
    (hs : ∀ i x H H', i < n → Pv i H → Y i H x H' → g x (wipe σ vs) H' fun σ2 H2 => wipe σ2 vs = wipe σ vs ∧ tt σ2 H2 fun b H3 =>
      if b = true then wi1 σ2 H3 fun J1 H4 => Inn D g1 tt1 te σ2 vs1 J1 H4 (Pv (i + 1)) else Pv (i + 1) H3) (hd : ∀ H, Pv n H → Qd H) :
    ∃ W : Nat → Nat → Hp → Prop, (∃ m, W 0 m (upd H1 D (.lst []))) ∧ ∀ i m H, W i m H →
      (J.stop i H ∧ Qd H) ∨ (J.go i H ∧ ∃ Nx : Hp → Prop, (∀ H', Nx H' → ∃ m', m' < m ∧ W (i + 1) m' H') ∧ ∀ x H', J.yld i H x H' → g x (wipe σ vs) H' fun σ2 H2 => wipe σ2 vs = wipe σ vs ∧ tt σ2 H2 fun b H3 =>
        if b = true then wi1 σ2 H3 fun J1 H4 => Inn D g1 tt1 te σ2 vs1 J1 H4 Nx else Nx H3) := by
  refine ⟨fun i m H => m = n - i ∧ i ≤ n ∧ Pv i H, ⟨n, by simp, Nat.zero_le _, h0⟩, ?_⟩
  rintro i m H ⟨rfl, hi, p⟩
  have q := hG i H hi p
  by_cases hlt : i < n
  · exact .inr ⟨w.goes i H hlt q, Pv (i + 1), fun H' p' => ⟨n - (i + 1), by omega, rfl, hlt, p'⟩, fun x H' y => hs i x H H' hlt p (w.yields i H x H' hlt q y)⟩
  · have e : i = n := by omega
    subst e
    exact .inl ⟨w.stops H q, hd H p⟩
end My
set_option Elab.async false
set_option linter.all false
set_option maxRecDepth 100000
set_option maxHeartbeats 4000000
namespace K38
open PySem L2 My
def topS (i : Nat) : Stmt := PySem.Challenge.pw_listwindow_k38_rooms_that_part_turns.main.body.getD i (.Pass ⟨0, 0, 0, 0⟩)
abbrev PR : Program := PySem.Challenge.pw_listwindow_k38_rooms_that_part_turns
abbrev s_init : Stmt := inClass (topS 1) 0
abbrev s_between : Stmt := topS 4
theorem sc_between : FnScope ["number", "least", "greatest"] ["number", "least", "greatest"] (defScope s_between) := ⟨rfl, rfl, rfl, by decide +kernel, rfl, by decide +kernel, by decide +kernel⟩
abbrev s_effect_from : Stmt := topS 5
theorem sc_effect_from : FnScope ["shift", "low", "high"] ["shift", "low", "high"] (defScope s_effect_from) := ⟨rfl, rfl, rfl, by decide +kernel, rfl, by decide +kernel, by decide +kernel⟩
abbrev s_effect_in : Stmt := topS 6
theorem sc_effect_in : FnScope ["size", "turns", "low", "high", "turn"] ["size", "turns"] (defScope s_effect_in) := ⟨rfl, rfl, rfl, by decide +kernel, rfl, by decide +kernel, by decide +kernel⟩
abbrev s_add_turn : Stmt := topS 8
theorem sc_add_turn : FnScope ["form", "turn", "waiting", "middle"] ["form", "turn"] (defScope s_add_turn) := ⟨rfl, rfl, rfl, by decide +kernel, rfl, by decide +kernel, by decide +kernel⟩
abbrev s_form_in : Stmt := topS 9
theorem sc_form_in : FnScope ["turns", "found", "turn"] ["turns"] (defScope s_form_in) := ⟨rfl, rfl, rfl, by decide +kernel, rfl, by decide +kernel, by decide +kernel⟩
abbrev s_turns_alike : Stmt := topS 10
theorem sc_turns_alike : FnScope ["one", "other"] ["one", "other"] (defScope s_turns_alike) := ⟨rfl, rfl, rfl, by decide +kernel, rfl, by decide +kernel, by decide +kernel⟩
abbrev s_cells_of : Stmt := topS 11
theorem sc_cells_of : FnScope ["form", "found", "reached", "turn"] ["form"] (defScope s_cells_of) := ⟨rfl, rfl, rfl, by decide +kernel, rfl, by decide +kernel, by decide +kernel⟩
abbrev s_last_cell : Stmt := topS 12
theorem sc_last_cell : FnScope ["cells"] ["cells"] (defScope s_last_cell) := ⟨rfl, rfl, rfl, by decide +kernel, rfl, by decide +kernel, by decide +kernel⟩
abbrev s_is_down_at : Stmt := topS 13
theorem sc_is_down_at : FnScope ["cells", "place", "first", "last", "is_down"] ["cells", "place"] (defScope s_is_down_at) := ⟨rfl, rfl, rfl, by decide +kernel, rfl, by decide +kernel, by decide +kernel⟩
abbrev s_size_apart : Stmt := topS 14
theorem sc_size_apart : FnScope ["one", "other", "first", "second", "end", "place", "cell"] ["one", "other"] (defScope s_size_apart) := ⟨rfl, rfl, rfl, by decide +kernel, rfl, by decide +kernel, by decide +kernel⟩
abbrev s_rise_of : Stmt := topS 15
theorem sc_rise_of : FnScope ["size", "effect", "shift", "low", "high"] ["size", "effect"] (defScope s_rise_of) := ⟨rfl, rfl, rfl, by decide +kernel, rfl, by decide +kernel, by decide +kernel⟩
abbrev s_scroll_apart : Stmt := topS 16
theorem sc_scroll_apart : FnScope ["size", "one", "other", "first", "second"] ["size", "one", "other"] (defScope s_scroll_apart) := ⟨rfl, rfl, rfl, by decide +kernel, rfl, by decide +kernel, by decide +kernel⟩
abbrev s_room_apart : Stmt := topS 17
theorem sc_room_apart : FnScope ["one", "other", "first", "second", "size"] ["one", "other"] (defScope s_room_apart) := ⟨rfl, rfl, rfl, by decide +kernel, rfl, by decide +kernel, by decide +kernel⟩
abbrev s_swing : Stmt := topS 18
theorem sc_swing : FnScope ["turns", "least", "greatest", "here", "turn"] ["turns"] (defScope s_swing) := ⟨rfl, rfl, rfl, by decide +kernel, rfl, by decide +kernel, by decide +kernel⟩
abbrev s_place_in : Stmt := topS 19
theorem sc_place_in : FnScope ["form", "size", "found", "turn"] ["form", "size"] (defScope s_place_in) := ⟨rfl, rfl, rfl, by decide +kernel, rfl, by decide +kernel, by decide +kernel⟩
abbrev s_least_size : Stmt := topS 20
theorem sc_least_size : FnScope ["form", "scroll", "end", "low", "high", "middle"] ["form", "scroll", "end"] (defScope s_least_size) := ⟨rfl, rfl, rfl, by decide +kernel, rfl, by decide +kernel, by decide +kernel⟩
abbrev s_rooms_for : Stmt := topS 21
theorem sc_rooms_for : FnScope ["turns", "scroll", "form", "end", "farthest", "least"] ["turns", "scroll"] (defScope s_rooms_for) := ⟨rfl, rfl, rfl, by decide +kernel, rfl, by decide +kernel, by decide +kernel⟩
abbrev s__law_jug : Stmt := topS 23
theorem sc__law_jug : FnScope ["_law_script", "_law_k", "_law_cell"] ["_law_script", "_law_k"] (defScope s__law_jug) := ⟨rfl, rfl, rfl, by decide +kernel, rfl, by decide +kernel, by decide +kernel⟩
abbrev s__law_pour : Stmt := topS 24
theorem sc__law_pour : FnScope ["_law_jug_here", "_law_many", "_law_found", "_law_mixed"] ["_law_jug_here", "_law_many"] (defScope s__law_pour) := ⟨rfl, rfl, rfl, by decide +kernel, rfl, by decide +kernel, by decide +kernel⟩
abbrev s__law_turns : Stmt := topS 25
theorem sc__law_turns : FnScope ["_law_jug_here", "_law_most", "_law_size", "_law_many", "_law_turn"] ["_law_jug_here", "_law_most", "_law_size"] (defScope s__law_turns) := ⟨rfl, rfl, rfl, by decide +kernel, rfl, by decide +kernel, by decide +kernel⟩
abbrev s__law_led : Stmt := topS 26
theorem sc__law_led : FnScope ["_law_size", "_law_turns_here", "_law_scroll", "_law_turn"] ["_law_size", "_law_turns_here", "_law_scroll"] (defScope s__law_led) := ⟨rfl, rfl, rfl, by decide +kernel, rfl, by decide +kernel, by decide +kernel⟩
abbrev s__law_apart : Stmt := topS 27
theorem sc__law_apart : FnScope ["_law_one", "_law_other", "_law_most", "_law_size", "_law_scroll"] ["_law_one", "_law_other", "_law_most"] (defScope s__law_apart) := ⟨rfl, rfl, rfl, by decide +kernel, rfl, by decide +kernel, by decide +kernel⟩
abbrev s__law_swing : Stmt := topS 28
theorem sc__law_swing : FnScope ["_law_turns_here", "_law_sums", "_law_turn"] ["_law_turns_here"] (defScope s__law_swing) := ⟨rfl, rfl, rfl, by decide +kernel, rfl, by decide +kernel, by decide +kernel⟩
abbrev s__law_apart_right : Stmt := topS 29
theorem sc__law_apart_right : FnScope ["_law_one", "_law_other", "_law_width", "_law_ends", "_law_most", "_law_told", "_law_wide", "_law_size", "_law_scroll", "_law_first", "_law_second", "_law_early", "_law_turn"] ["_law_one", "_law_other", "_law_width"] (defScope s__law_apart_right) := ⟨rfl, rfl, rfl, by decide +kernel, rfl, by decide +kernel, by decide +kernel⟩
abbrev s__law_great_right : Stmt := topS 30
theorem sc__law_great_right : FnScope ["_law_jug_here", "_law_far", "_law_less"] ["_law_jug_here"] (defScope s__law_great_right) := ⟨rfl, rfl, rfl, by decide +kernel, rfl, by decide +kernel, by decide +kernel⟩
abbrev s__law_rooms_right : Stmt := topS 31
theorem sc__law_rooms_right : FnScope ["_law_turns_here", "_law_scroll", "_law_width", "_law_least", "_law_greatest", "_law_great", "_law_most", "_law_places", "_law_sizes", "_law_told", "_law_due", "_law_wide", "_law_turn", "_law_size"] ["_law_turns_here", "_law_scroll", "_law_width"] (defScope s__law_rooms_right) := ⟨rfl, rfl, rfl, by decide +kernel, rfl, by decide +kernel, by decide +kernel⟩
abbrev s__law_refused : Stmt := topS 32
theorem sc__law_refused : FnScope ["_law_turns_here", "_law_scroll", "e"] ["_law_turns_here", "_law_scroll"] (defScope s__law_refused) := ⟨rfl, rfl, rfl, by decide +kernel, rfl, by decide +kernel, by decide +kernel⟩
abbrev s_law : Stmt := topS 33
theorem sc_law : FnScope ["_law_script", "_law_k", "_law_jug_here", "_law_width", "_law_one", "_law_other", "_law_spot", "_law_number", "_law_scroll"] ["_law_script"] (defScope s_law) := ⟨rfl, rfl, rfl, by decide +kernel, rfl, by decide +kernel, by decide +kernel⟩
structure Txt (K : PySem.W.Frag) (mg : Str → Option Value) where
  a_between : Addr
  d_between : FuncData
  f_between : Fun K "between" "between" s_between a_between d_between
  g_between : mg "between" = some (.ref a_between)
  a_effect_from : Addr
  d_effect_from : FuncData
  f_effect_from : Fun K "effect_from" "effect_from" s_effect_from a_effect_from d_effect_from
  g_effect_from : mg "effect_from" = some (.ref a_effect_from)
  a_effect_in : Addr
  d_effect_in : FuncData
  f_effect_in : Fun K "effect_in" "effect_in" s_effect_in a_effect_in d_effect_in
  g_effect_in : mg "effect_in" = some (.ref a_effect_in)
  a_add_turn : Addr
  d_add_turn : FuncData
  f_add_turn : Fun K "add_turn" "add_turn" s_add_turn a_add_turn d_add_turn
  g_add_turn : mg "add_turn" = some (.ref a_add_turn)
  a_form_in : Addr
  d_form_in : FuncData
  f_form_in : Fun K "form_in" "form_in" s_form_in a_form_in d_form_in
  g_form_in : mg "form_in" = some (.ref a_form_in)
  a_turns_alike : Addr
  d_turns_alike : FuncData
  f_turns_alike : Fun K "turns_alike" "turns_alike" s_turns_alike a_turns_alike d_turns_alike
  g_turns_alike : mg "turns_alike" = some (.ref a_turns_alike)
  a_cells_of : Addr
  d_cells_of : FuncData
  f_cells_of : Fun K "cells_of" "cells_of" s_cells_of a_cells_of d_cells_of
  g_cells_of : mg "cells_of" = some (.ref a_cells_of)
  a_last_cell : Addr
  d_last_cell : FuncData
  f_last_cell : Fun K "last_cell" "last_cell" s_last_cell a_last_cell d_last_cell
  g_last_cell : mg "last_cell" = some (.ref a_last_cell)
  a_is_down_at : Addr
  d_is_down_at : FuncData
  f_is_down_at : Fun K "is_down_at" "is_down_at" s_is_down_at a_is_down_at d_is_down_at
  g_is_down_at : mg "is_down_at" = some (.ref a_is_down_at)
  a_size_apart : Addr
  d_size_apart : FuncData
  f_size_apart : Fun K "size_apart" "size_apart" s_size_apart a_size_apart d_size_apart
  g_size_apart : mg "size_apart" = some (.ref a_size_apart)
  a_rise_of : Addr
  d_rise_of : FuncData
  f_rise_of : Fun K "rise_of" "rise_of" s_rise_of a_rise_of d_rise_of
  g_rise_of : mg "rise_of" = some (.ref a_rise_of)
  a_scroll_apart : Addr
  d_scroll_apart : FuncData
  f_scroll_apart : Fun K "scroll_apart" "scroll_apart" s_scroll_apart a_scroll_apart d_scroll_apart
  g_scroll_apart : mg "scroll_apart" = some (.ref a_scroll_apart)
  a_room_apart : Addr
  d_room_apart : FuncData
  f_room_apart : Fun K "room_apart" "room_apart" s_room_apart a_room_apart d_room_apart
  g_room_apart : mg "room_apart" = some (.ref a_room_apart)
  a_swing : Addr
  d_swing : FuncData
  f_swing : Fun K "swing" "swing" s_swing a_swing d_swing
  g_swing : mg "swing" = some (.ref a_swing)
  a_place_in : Addr
  d_place_in : FuncData
  f_place_in : Fun K "place_in" "place_in" s_place_in a_place_in d_place_in
  g_place_in : mg "place_in" = some (.ref a_place_in)
  a_least_size : Addr
  d_least_size : FuncData
  f_least_size : Fun K "least_size" "least_size" s_least_size a_least_size d_least_size
  g_least_size : mg "least_size" = some (.ref a_least_size)
  a_rooms_for : Addr
  d_rooms_for : FuncData
  f_rooms_for : Fun K "rooms_for" "rooms_for" s_rooms_for a_rooms_for d_rooms_for
  g_rooms_for : mg "rooms_for" = some (.ref a_rooms_for)
  a__law_jug : Addr
  d__law_jug : FuncData
  f__law_jug : Fun K "_law_jug" "_law_jug" s__law_jug a__law_jug d__law_jug
  g__law_jug : mg "_law_jug" = some (.ref a__law_jug)
  a__law_pour : Addr
  d__law_pour : FuncData
  f__law_pour : Fun K "_law_pour" "_law_pour" s__law_pour a__law_pour d__law_pour
  g__law_pour : mg "_law_pour" = some (.ref a__law_pour)
  a__law_turns : Addr
  d__law_turns : FuncData
  f__law_turns : Fun K "_law_turns" "_law_turns" s__law_turns a__law_turns d__law_turns
  g__law_turns : mg "_law_turns" = some (.ref a__law_turns)
  a__law_led : Addr
  d__law_led : FuncData
  f__law_led : Fun K "_law_led" "_law_led" s__law_led a__law_led d__law_led
  g__law_led : mg "_law_led" = some (.ref a__law_led)
  a__law_apart : Addr
  d__law_apart : FuncData
  f__law_apart : Fun K "_law_apart" "_law_apart" s__law_apart a__law_apart d__law_apart
  g__law_apart : mg "_law_apart" = some (.ref a__law_apart)
  a__law_swing : Addr
  d__law_swing : FuncData
  f__law_swing : Fun K "_law_swing" "_law_swing" s__law_swing a__law_swing d__law_swing
  g__law_swing : mg "_law_swing" = some (.ref a__law_swing)
  a__law_apart_right : Addr
  d__law_apart_right : FuncData
  f__law_apart_right : Fun K "_law_apart_right" "_law_apart_right" s__law_apart_right a__law_apart_right d__law_apart_right
  g__law_apart_right : mg "_law_apart_right" = some (.ref a__law_apart_right)
  a__law_great_right : Addr
  d__law_great_right : FuncData
  f__law_great_right : Fun K "_law_great_right" "_law_great_right" s__law_great_right a__law_great_right d__law_great_right
  g__law_great_right : mg "_law_great_right" = some (.ref a__law_great_right)
  a__law_rooms_right : Addr
  d__law_rooms_right : FuncData
  f__law_rooms_right : Fun K "_law_rooms_right" "_law_rooms_right" s__law_rooms_right a__law_rooms_right d__law_rooms_right
  g__law_rooms_right : mg "_law_rooms_right" = some (.ref a__law_rooms_right)
  a__law_refused : Addr
  d__law_refused : FuncData
  f__law_refused : Fun K "_law_refused" "_law_refused" s__law_refused a__law_refused d__law_refused
  g__law_refused : mg "_law_refused" = some (.ref a__law_refused)
  a_law : Addr
  d_law : FuncData
  f_law : Fun K "law" "law" s_law a_law d_law
  g_law : mg "law" = some (.ref a_law)
  fI : Addr
  cI : Addr
  cdI : Addr
  dD : Addr
  dI : FuncData
  iT : InitT PR K mg s_init "WindowError.__init__" fI cI cdI dD dI
  c_WindowError : Addr
  e_WindowError : ErrC K fI dD c_WindowError
  g_WindowError : mg "WindowError" = some (.ref c_WindowError)
  c_InvalidNumber : Addr
  e_InvalidNumber : ErrC K fI dD c_InvalidNumber
  g_InvalidNumber : mg "InvalidNumber" = some (.ref c_InvalidNumber)
  x_InvalidNumber_InvalidNumber : PySem.W.exmOne K (.ref c_InvalidNumber) (.ref c_InvalidNumber) = some true
  z_max : mg "max" = none
  z_min : mg "min" = none
  z_sum : mg "sum" = none
  z_len : mg "len" = none
  z_abs : mg "abs" = none
  z_sorted : mg "sorted" = none
  z_int : mg "int" = none
  z_range : mg "range" = none
theorem ok_init {w : World} {K : PySem.W.Frag} {mg : Str → Option Value} {base : Heap} (T : Txt K mg) : FnOk PR w K mg base CX0 1 T.fI T.dI ["self", "value"] (spErr K T.fI T.dD) := ok_err T.iT (NdefX.nscope_by (by decide +kernel)) rfl rfl rfl (fun env => rfl)
theorem b_init {K : PySem.W.Frag} {mg : Str → Option Value} (T : Txt K mg) : Binds K T.dI ["self", "value"] [] := by
  obtain ⟨oc, od, kV, doc, pm, an, ct, osl, e, lk⟩ := T.iT.ex
  rw [e]
  exact .all fun us hl => match us, hl with | [_, _], _ => rfl
theorem b_between {K : PySem.W.Frag} {mg : Str → Option Value} (T : Txt K mg) : Binds K T.d_between ["number", "least", "greatest"] [] := T.f_between.binds (ps := ["number", "least", "greatest"]) fun _ _ _ _ _ _ us hl => match us, hl with | [_, _, _], _ => rfl
theorem b_effect_from {K : PySem.W.Frag} {mg : Str → Option Value} (T : Txt K mg) : Binds K T.d_effect_from ["shift", "low", "high"] [] := T.f_effect_from.binds (ps := ["shift", "low", "high"]) fun _ _ _ _ _ _ us hl => match us, hl with | [_, _, _], _ => rfl
theorem b_effect_in {K : PySem.W.Frag} {mg : Str → Option Value} (T : Txt K mg) : Binds K T.d_effect_in ["size", "turns"] [] := T.f_effect_in.binds (ps := ["size", "turns"]) fun _ _ _ _ _ _ us hl => match us, hl with | [_, _], _ => rfl
theorem b_add_turn {K : PySem.W.Frag} {mg : Str → Option Value} (T : Txt K mg) : Binds K T.d_add_turn ["form", "turn"] [] := T.f_add_turn.binds (ps := ["form", "turn"]) fun _ _ _ _ _ _ us hl => match us, hl with | [_, _], _ => rfl
theorem b_form_in {K : PySem.W.Frag} {mg : Str → Option Value} (T : Txt K mg) : Binds K T.d_form_in ["turns"] [] := T.f_form_in.binds (ps := ["turns"]) fun _ _ _ _ _ _ us hl => match us, hl with | [_], _ => rfl
theorem b_turns_alike {K : PySem.W.Frag} {mg : Str → Option Value} (T : Txt K mg) : Binds K T.d_turns_alike ["one", "other"] [] := T.f_turns_alike.binds (ps := ["one", "other"]) fun _ _ _ _ _ _ us hl => match us, hl with | [_, _], _ => rfl
theorem b_cells_of {K : PySem.W.Frag} {mg : Str → Option Value} (T : Txt K mg) : Binds K T.d_cells_of ["form"] [] := T.f_cells_of.binds (ps := ["form"]) fun _ _ _ _ _ _ us hl => match us, hl with | [_], _ => rfl
theorem b_last_cell {K : PySem.W.Frag} {mg : Str → Option Value} (T : Txt K mg) : Binds K T.d_last_cell ["cells"] [] := T.f_last_cell.binds (ps := ["cells"]) fun _ _ _ _ _ _ us hl => match us, hl with | [_], _ => rfl
theorem b_is_down_at {K : PySem.W.Frag} {mg : Str → Option Value} (T : Txt K mg) : Binds K T.d_is_down_at ["cells", "place"] [] := T.f_is_down_at.binds (ps := ["cells", "place"]) fun _ _ _ _ _ _ us hl => match us, hl with | [_, _], _ => rfl
theorem b_size_apart {K : PySem.W.Frag} {mg : Str → Option Value} (T : Txt K mg) : Binds K T.d_size_apart ["one", "other"] [] := T.f_size_apart.binds (ps := ["one", "other"]) fun _ _ _ _ _ _ us hl => match us, hl with | [_, _], _ => rfl
theorem b_rise_of {K : PySem.W.Frag} {mg : Str → Option Value} (T : Txt K mg) : Binds K T.d_rise_of ["size", "effect"] [] := T.f_rise_of.binds (ps := ["size", "effect"]) fun _ _ _ _ _ _ us hl => match us, hl with | [_, _], _ => rfl
theorem b_scroll_apart {K : PySem.W.Frag} {mg : Str → Option Value} (T : Txt K mg) : Binds K T.d_scroll_apart ["size", "one", "other"] [] := T.f_scroll_apart.binds (ps := ["size", "one", "other"]) fun _ _ _ _ _ _ us hl => match us, hl with | [_, _, _], _ => rfl
theorem b_room_apart {K : PySem.W.Frag} {mg : Str → Option Value} (T : Txt K mg) : Binds K T.d_room_apart ["one", "other"] [] := T.f_room_apart.binds (ps := ["one", "other"]) fun _ _ _ _ _ _ us hl => match us, hl with | [_, _], _ => rfl
theorem b_swing {K : PySem.W.Frag} {mg : Str → Option Value} (T : Txt K mg) : Binds K T.d_swing ["turns"] [] := T.f_swing.binds (ps := ["turns"]) fun _ _ _ _ _ _ us hl => match us, hl with | [_], _ => rfl
theorem b_place_in {K : PySem.W.Frag} {mg : Str → Option Value} (T : Txt K mg) : Binds K T.d_place_in ["form", "size"] [] := T.f_place_in.binds (ps := ["form", "size"]) fun _ _ _ _ _ _ us hl => match us, hl with | [_, _], _ => rfl
theorem b_least_size {K : PySem.W.Frag} {mg : Str → Option Value} (T : Txt K mg) : Binds K T.d_least_size ["form", "scroll", "end"] [] := T.f_least_size.binds (ps := ["form", "scroll", "end"]) fun _ _ _ _ _ _ us hl => match us, hl with | [_, _, _], _ => rfl
theorem b_rooms_for {K : PySem.W.Frag} {mg : Str → Option Value} (T : Txt K mg) : Binds K T.d_rooms_for ["turns", "scroll"] [] := T.f_rooms_for.binds (ps := ["turns", "scroll"]) fun _ _ _ _ _ _ us hl => match us, hl with | [_, _], _ => rfl
theorem b__law_jug {K : PySem.W.Frag} {mg : Str → Option Value} (T : Txt K mg) : Binds K T.d__law_jug ["_law_script", "_law_k"] [] := T.f__law_jug.binds (ps := ["_law_script", "_law_k"]) fun _ _ _ _ _ _ us hl => match us, hl with | [_, _], _ => rfl
theorem b__law_pour {K : PySem.W.Frag} {mg : Str → Option Value} (T : Txt K mg) : Binds K T.d__law_pour ["_law_jug_here", "_law_many"] [] := T.f__law_pour.binds (ps := ["_law_jug_here", "_law_many"]) fun _ _ _ _ _ _ us hl => match us, hl with | [_, _], _ => rfl
theorem b__law_turns {K : PySem.W.Frag} {mg : Str → Option Value} (T : Txt K mg) : Binds K T.d__law_turns ["_law_jug_here", "_law_most", "_law_size"] [] := T.f__law_turns.binds (ps := ["_law_jug_here", "_law_most", "_law_size"]) fun _ _ _ _ _ _ us hl => match us, hl with | [_, _, _], _ => rfl
theorem b__law_led {K : PySem.W.Frag} {mg : Str → Option Value} (T : Txt K mg) : Binds K T.d__law_led ["_law_size", "_law_turns_here", "_law_scroll"] [] := T.f__law_led.binds (ps := ["_law_size", "_law_turns_here", "_law_scroll"]) fun _ _ _ _ _ _ us hl => match us, hl with | [_, _, _], _ => rfl
theorem b__law_apart {K : PySem.W.Frag} {mg : Str → Option Value} (T : Txt K mg) : Binds K T.d__law_apart ["_law_one", "_law_other", "_law_most"] [] := T.f__law_apart.binds (ps := ["_law_one", "_law_other", "_law_most"]) fun _ _ _ _ _ _ us hl => match us, hl with | [_, _, _], _ => rfl
theorem b__law_swing {K : PySem.W.Frag} {mg : Str → Option Value} (T : Txt K mg) : Binds K T.d__law_swing ["_law_turns_here"] [] := T.f__law_swing.binds (ps := ["_law_turns_here"]) fun _ _ _ _ _ _ us hl => match us, hl with | [_], _ => rfl
theorem b__law_apart_right {K : PySem.W.Frag} {mg : Str → Option Value} (T : Txt K mg) : Binds K T.d__law_apart_right ["_law_one", "_law_other", "_law_width"] [] := T.f__law_apart_right.binds (ps := ["_law_one", "_law_other", "_law_width"]) fun _ _ _ _ _ _ us hl => match us, hl with | [_, _, _], _ => rfl
theorem b__law_great_right {K : PySem.W.Frag} {mg : Str → Option Value} (T : Txt K mg) : Binds K T.d__law_great_right ["_law_jug_here"] [] := T.f__law_great_right.binds (ps := ["_law_jug_here"]) fun _ _ _ _ _ _ us hl => match us, hl with | [_], _ => rfl
theorem b__law_rooms_right {K : PySem.W.Frag} {mg : Str → Option Value} (T : Txt K mg) : Binds K T.d__law_rooms_right ["_law_turns_here", "_law_scroll", "_law_width"] [] := T.f__law_rooms_right.binds (ps := ["_law_turns_here", "_law_scroll", "_law_width"]) fun _ _ _ _ _ _ us hl => match us, hl with | [_, _, _], _ => rfl
theorem b__law_refused {K : PySem.W.Frag} {mg : Str → Option Value} (T : Txt K mg) : Binds K T.d__law_refused ["_law_turns_here", "_law_scroll"] [] := T.f__law_refused.binds (ps := ["_law_turns_here", "_law_scroll"]) fun _ _ _ _ _ _ us hl => match us, hl with | [_, _], _ => rfl
theorem b_law {K : PySem.W.Frag} {mg : Str → Option Value} (T : Txt K mg) : Binds K T.d_law ["_law_script"] [] := T.f_law.binds (ps := ["_law_script"]) fun _ _ _ _ _ _ us hl => match us, hl with | [_], _ => rfl
theorem kb_room_apart_0_other_one {K : PySem.W.Frag} {mg : Str → Option Value} (T : Txt K mg) : KBinds K T.d_room_apart ["one", "other"] ["other", "one"] (kg 0 2 [1, 0]) (kg 0 2 [1, 0]) := kbinds 0 2 [1, 0] T.f_room_apart (by decide) fun _ _ _ _ _ _ us ws h1 h2 => match us, h1, ws, h2 with | [], _, [_, _], _ => rfl
theorem kb_rooms_for_0_scroll_turns {K : PySem.W.Frag} {mg : Str → Option Value} (T : Txt K mg) : KBinds K T.d_rooms_for ["turns", "scroll"] ["scroll", "turns"] (kg 0 2 [1, 0]) (kg 0 2 [1, 0]) := kbinds 0 2 [1, 0] T.f_rooms_for (by decide) fun _ _ _ _ _ _ us ws h1 h2 => match us, h1, ws, h2 with | [], _, [_, _], _ => rfl
theorem kb_swing_0_turns {K : PySem.W.Frag} {mg : Str → Option Value} (T : Txt K mg) : KBinds K T.d_swing ["turns"] ["turns"] (kg 0 1 [0]) (kg 0 1 [0]) := kbinds 0 1 [0] T.f_swing (by decide) fun _ _ _ _ _ _ us ws h1 h2 => match us, h1, ws, h2 with | [], _, [_], _ => rfl
end K38
set_option Elab.async false
set_option pp.maxSteps 1200
set_option maxRecDepth 100000
set_option maxHeartbeats 4000000
/-! K37: the mathematics of short forms, in plain Lean. -/
namespace K38
def ab (n : Int) : Int := if n < 0 then -n else n
def cl (S x : Int) : Int := if (if x < S then x else S) > 0 then (if x < S then x else S) else 0
theorem cl_eq (S x : Int) : cl S x = if x < S then (if x > 0 then x else 0) else (if S > 0 then S else 0) := by
  unfold cl
  split <;> rfl
theorem cl_in {S x : Int} (h0 : 0 ≤ x) (h1 : x ≤ S) : cl S x = x := by
  rw [cl_eq]
  split <;> split <;> omega
theorem cl_lo {S x : Int} (h : 0 ≤ S) (h0 : x ≤ 0) : cl S x = 0 := by
  rw [cl_eq]
  split <;> split <;> omega
theorem cl_hi {S x : Int} (h : 0 ≤ S) (h0 : S ≤ x) : cl S x = S := by
  rw [cl_eq]
  split <;> split <;> omega
theorem cl_rng {S x : Int} (h : 0 ≤ S) : 0 ≤ cl S x ∧ cl S x ≤ S := by
  rw [cl_eq]
  split <;> split <;> omega
def opp (a b : Int) : Prop := (0 < a ∧ b < 0) ∨ (a < 0 ∧ 0 < b)
theorem ab_cases (n : Int) : (n < 0 ∧ ab n = -n) ∨ (0 ≤ n ∧ ab n = n) := by
  unfold ab
  split
  · exact .inl ⟨by assumption, rfl⟩
  · exact .inr ⟨by omega, rfl⟩
/-- where turns lead a scroll in a room -/
def led (S : Int) : List Int → Int → Int
  | [], x => x
  | t :: ts, x => led S ts (cl S (x + t))
theorem led_app {S : Int} : ∀ (xs ys : List Int) (x : Int), led S (xs ++ ys) x = led S ys (led S xs x)
  | [], _, _ => rfl
  | t :: ts, ys, x => led_app ts ys (cl S (x + t))
theorem led_rng {S : Int} (h : 0 ≤ S) : ∀ (ts : List Int) {x : Int}, 0 ≤ x → x ≤ S → 0 ≤ led S ts x ∧ led S ts x ≤ S
  | [], _, h0, h1 => ⟨h0, h1⟩
  | t :: ts, x, _, _ => led_rng h ts (cl_rng (S := S) (x := x + t) h).1 (cl_rng (S := S) (x := x + t) h).2
theorem e1 {S x a w : Int} (hS : 0 ≤ S) (h0 : 0 ≤ x) (h1 : x ≤ S) (h : (0 < a ∧ 0 < w) ∨ (a ≤ 0 ∧ w ≤ 0)) : cl S (cl S (x + a) + w) = cl S (x + (w + a)) := by
  simp only [cl_eq]
  split <;> split <;> split <;> split <;> (try split) <;> (try split) <;> omega
theorem e2 {S x p a w : Int} (hS : 0 ≤ S) (h0 : 0 ≤ x) (h1 : x ≤ S) (h : opp p a) (h' : opp a w) (l1 : ab a ≤ ab p) (l2 : ab a ≤ ab w) : cl S (cl S (cl S (x + p) + a) + w) = cl S (x + (w + a + p)) := by
  have c1 := ab_cases a
  have c2 := ab_cases p
  have c3 := ab_cases w
  have r1 := cl_rng (S := S) (x := x + p) hS
  have r2 := cl_rng (S := S) (x := cl S (x + p) + a) hS
  rcases h with ⟨hp, ha⟩ | ⟨hp, ha⟩
  · rcases h' with ⟨q, _⟩ | ⟨_, hw⟩
    · omega
    · by_cases z : x + p ≤ S
      · rw [cl_in (S := S) (x := x + p) (by omega) z, cl_in (S := S) (x := x + p + a) (by omega) (by omega)]
        congr 1
        omega
      · rw [cl_hi (S := S) (x := x + p) hS (by omega)]
        have r3 := cl_rng (S := S) (x := S + a) hS
        by_cases y : 0 ≤ S + a
        · rw [cl_in (S := S) (x := S + a) y (by omega), cl_hi hS (by omega), cl_hi hS (by omega)]
        · rw [cl_lo (S := S) (x := S + a) hS (by omega), cl_hi hS (by omega), cl_hi hS (by omega)]
  · rcases h' with ⟨_, hw⟩ | ⟨q, _⟩
    · by_cases z : 0 ≤ x + p
      · rw [cl_in (S := S) (x := x + p) z (by omega), cl_in (S := S) (x := x + p + a) (by omega) (by omega)]
        congr 1
        omega
      · rw [cl_lo (S := S) (x := x + p) hS (by omega)]
        by_cases y : 0 + a ≤ S
        · rw [cl_in (S := S) (x := 0 + a) (by omega) y, cl_lo hS (by omega), cl_lo hS (by omega)]
        · rw [cl_hi (S := S) (x := 0 + a) hS (by omega), cl_lo hS (by omega), cl_lo hS (by omega)]
    · omega
theorem e3 {S x p a w : Int} (hS : 0 ≤ S) (h0 : 0 ≤ x) (h1 : x ≤ S) (h : opp p a) (h' : opp a w) (l1 : ab p < ab a) (l2 : ab a ≤ ab w) : cl S (cl S (cl S (x + p) + a) + w) = cl S (cl S (x + (p + a)) + w) := by
  have c1 := ab_cases a
  have c2 := ab_cases p
  have c3 := ab_cases w
  have r1 := cl_rng (S := S) (x := x + (p + a)) hS
  rcases h with ⟨hp, ha⟩ | ⟨hp, ha⟩
  · rcases h' with ⟨q, _⟩ | ⟨_, hw⟩
    · omega
    · by_cases z : x + p ≤ S
      · rw [cl_in (S := S) (x := x + p) (by omega) z]
        congr 2
        congr 1
        omega
      · rw [cl_hi (S := S) (x := x + p) hS (by omega)]
        rw [cl_hi (S := S) (x := cl S (x + (p + a)) + w) hS ?_]
        · by_cases y : 0 ≤ S + a
          · rw [cl_in (S := S) (x := S + a) y (by omega), cl_hi hS (by omega)]
          · rw [cl_lo (S := S) (x := S + a) hS (by omega), cl_hi hS (by omega)]
        · by_cases y : 0 ≤ x + (p + a)
          · rw [cl_in y (by omega)]
            omega
          · rw [cl_lo hS (by omega)]
            omega
  · rcases h' with ⟨_, hw⟩ | ⟨q, _⟩
    · by_cases z : 0 ≤ x + p
      · rw [cl_in (S := S) (x := x + p) z (by omega)]
        congr 2
        congr 1
        omega
      · rw [cl_lo (S := S) (x := x + p) hS (by omega)]
        rw [cl_lo (S := S) (x := cl S (x + (p + a)) + w) hS ?_]
        · by_cases y : 0 + a ≤ S
          · rw [cl_in (S := S) (x := 0 + a) (by omega) y, cl_lo hS (by omega)]
          · rw [cl_hi (S := S) (x := 0 + a) hS (by omega), cl_lo hS (by omega)]
        · by_cases y : x + (p + a) ≤ S
          · rw [cl_in (by omega) y]
            omega
          · rw [cl_hi hS (by omega)]
            omega
    · omega
/-! ### the stack: the form, its last turn first -/
def add : List Int → Int → List Int
  | [], w => if w = 0 then [] else [w]
  | a :: r, w =>
    if w = 0 then a :: r
    else if (decide (a > 0)) = (decide (w > 0)) then add r (w + a)
    else match r with
      | [] => w :: a :: []
      | p :: r' =>
        if ab a ≤ ab w then
          (if ab a ≤ ab p then add r' (w + a + p) else add ((p + a) :: r') w)
        else w :: a :: p :: r'
termination_by r => r.length
/-- a valid form, its last turn first -/
def Val : List Int → Prop
  | [] => True
  | [a] => a ≠ 0
  | a :: p :: r => opp p a ∧ (r ≠ [] → ab a < ab p) ∧ Val (p :: r)
theorem Val.ne {a : Int} {r : List Int} (h : Val (a :: r)) : a ≠ 0 := by
  cases r with
  | nil => exact h
  | cons p r =>
    obtain ⟨h, _⟩ := h
    rcases h with h | h <;> omega
theorem Val.tail {a : Int} {r : List Int} (h : Val (a :: r)) : Val r := by
  cases r with
  | nil => trivial
  | cons p r => exact h.2.2
theorem opp_of {a w : Int} (ha : a ≠ 0) (hw : w ≠ 0) (h : ¬ decide (a > 0) = decide (w > 0)) : opp a w := by
  unfold opp
  by_cases h1 : a > 0 <;> by_cases h2 : w > 0
  · simp [h1, h2] at h
  · left; omega
  · right; omega
  · simp [h1, h2] at h
theorem same_of {a w : Int} (ha : a ≠ 0) (hw : w ≠ 0) (h : decide (a > 0) = decide (w > 0)) : (0 < a ∧ 0 < w) ∨ (a < 0 ∧ w < 0) := by
  by_cases h1 : a > 0 <;> by_cases h2 : w > 0
  · left; omega
  · simp [h1, h2] at h
  · simp [h1, h2] at h
  · right; omega
theorem add_val (n : Nat) : ∀ (r : List Int) (w : Int), r.length ≤ n → Val r → Val (add r w) := by
  induction n with
  | zero =>
    intro r w hl h
    cases r with
    | nil =>
      unfold add
      split
      · trivial
      · assumption
    | cons a r => simp at hl
  | succ n ih =>
    intro r w hl h
    cases r with
    | nil =>
      unfold add
      split
      · trivial
      · assumption
    | cons a r =>
      have hl' : r.length ≤ n := by simpa using hl
      unfold add
      split
      · exact h
      · rename_i hw
        split
        · exact ih r _ hl' h.tail
        · rename_i ho
          have ho' := opp_of h.ne hw ho
          cases r with
          | nil => exact ⟨ho', fun q => absurd rfl q, h⟩
          | cons p r' =>
            dsimp only
            split
            · split
              · exact ih r' _ (by simp at hl'; omega) h.tail.tail
              · rename_i hp
                -- only where there is nothing ahead
                have hr : r' = [] := by
                  cases r' with
                  | nil => rfl
                  | cons b r'' =>
                    have := h.2.1 (by simp)
                    omega
                subst hr
                refine ih [p + a] w (by simpa using hl') ?_
                show p + a ≠ 0
                have c1 := ab_cases a
                have c2 := ab_cases p
                omega
            · rename_i hlt
              exact ⟨ho', fun _ => by omega, h⟩
theorem add_led (n : Nat) : ∀ (r : List Int) (w : Int) {S x : Int}, r.length ≤ n → Val r → 0 ≤ S → 0 ≤ x → x ≤ S → led S (add r w).reverse x = cl S (led S r.reverse x + w) := by
  have nil : ∀ (w : Int) {S x : Int}, 0 ≤ S → 0 ≤ x → x ≤ S → led S (add [] w).reverse x = cl S (led S ([] : List Int).reverse x + w) := fun w S x hS h0 h1 => by
    unfold add
    split
    · rename_i hw
      subst hw
      show x = cl S (x + 0)
      rw [Int.add_zero, cl_in h0 h1]
    · rfl
  induction n with
  | zero =>
    intro r w S x hl h hS h0 h1
    cases r with
    | nil => exact nil w hS h0 h1
    | cons a r => simp at hl
  | succ n ih =>
    intro r w S x hl h hS h0 h1
    cases r with
    | nil => exact nil w hS h0 h1
    | cons a r =>
      have hl' : r.length ≤ n := by simpa using hl
      unfold add
      have rg := led_rng hS (a :: r).reverse h0 h1
      have rg1 := led_rng hS r.reverse h0 h1
      split
      · rename_i hw
        subst hw
        rw [Int.add_zero, cl_in rg.1 rg.2]
      · rename_i hw
        have ea : led S (a :: r).reverse x = cl S (led S r.reverse x + a) := by
          rw [List.reverse_cons, led_app]
          rfl
        split
        · rename_i hs
          rw [ih r _ hl' h.tail hS h0 h1, ea, e1 hS rg1.1 rg1.2]
          rcases same_of h.ne hw hs with q | q <;> omega
        · rename_i ho
          have ho' := opp_of h.ne hw ho
          cases r with
          | nil =>
            show led S [a, w] x = _
            rfl
          | cons p r' =>
            have rg2 := led_rng hS r'.reverse h0 h1
            have ep : led S (p :: r').reverse x = cl S (led S r'.reverse x + p) := by
              rw [List.reverse_cons, led_app]
              rfl
            dsimp only
            split
            · rename_i haw
              split
              · rename_i hap
                rw [ih r' _ (by simp at hl'; omega) h.tail.tail hS h0 h1, ea, ep, e2 hS rg2.1 rg2.2 h.1 ho' hap haw]
              · rename_i hp
                have hr : r' = [] := by
                  cases r' with
                  | nil => rfl
                  | cons b r'' =>
                    have := h.2.1 (by simp)
                    omega
                subst hr
                have hne : p + a ≠ 0 := by
                  have c1 := ab_cases a
                  have c2 := ab_cases p
                  omega
                rw [ih [p + a] w (by simpa using hl') hne hS h0 h1, ea, ep]
                show cl S (cl S (x + (p + a)) + w) = cl S (cl S (cl S (x + p) + a) + w)
                rw [e3 hS h0 h1 h.1 ho' (by omega) haw]
            · rw [List.reverse_cons, led_app]
              rfl
theorem add_len (n : Nat) : ∀ (r : List Int) (w : Int), r.length ≤ n → (add r w).length ≤ r.length + 1 := by
  induction n with
  | zero =>
    intro r w hl
    cases r with
    | nil => unfold add; split <;> simp
    | cons a r => simp at hl
  | succ n ih =>
    intro r w hl
    cases r with
    | nil => unfold add; split <;> simp
    | cons a r =>
      have hl' : r.length ≤ n := by simpa using hl
      unfold add
      split
      · simp
      · split
        · have := ih r (w + a) hl'
          simp
          omega
        · cases r with
          | nil => simp
          | cons p r' =>
            dsimp only
            split
            · split
              · have := ih r' (w + a + p) (by simp at hl'; omega)
                simp
                omega
              · have := ih ((p + a) :: r') w (by simpa using hl')
                simp at this ⊢
                omega
            · simp
theorem ab_mul {k a : Int} (hk : 0 < k) : ab (k * a) = k * ab a := by
  unfold ab
  by_cases h : a < 0
  · rw [if_pos h, if_pos (Int.mul_neg_of_pos_of_neg hk h), Int.mul_neg]
  · have : 0 ≤ k * a := Int.mul_nonneg (by omega) (by omega)
    rw [if_neg h, if_neg (by omega)]
theorem mul_le_iff {k a b : Int} (hk : 0 < k) : (k * a ≤ k * b) ↔ a ≤ b := ⟨fun h => Int.le_of_mul_le_mul_left h hk, fun h => Int.mul_le_mul_of_nonneg_left h (by omega)⟩
theorem mul_pos_iff {k a : Int} (hk : 0 < k) : (k * a > 0) ↔ a > 0 := by
  constructor
  · intro h
    by_cases z : a > 0
    · exact z
    · have : k * a ≤ 0 := by
        have := (mul_le_iff (k := k) (a := a) (b := 0) hk).mpr (by omega)
        omega
      omega
  · exact fun h => Int.mul_pos hk h
theorem mul_zero_iff {k a : Int} (hk : 0 < k) : (k * a = 0) ↔ a = 0 := by
  constructor
  · intro h
    rcases Int.mul_eq_zero.mp h with z | z <;> omega
  · intro h
    rw [h, Int.mul_zero]
theorem add_scale {k : Int} (hk : 0 < k) (n : Nat) : ∀ (r : List Int) (w : Int), r.length ≤ n → add (r.map (k * ·)) (k * w) = (add r w).map (k * ·) := by
  have nil : ∀ w, add (([] : List Int).map (k * ·)) (k * w) = (add [] w).map (k * ·) := fun w => by
    show add [] (k * w) = _
    unfold add
    by_cases h : w = 0
    · rw [if_pos h, if_pos ((mul_zero_iff hk).mpr h)]
      rfl
    · rw [if_neg h, if_neg (fun q => h ((mul_zero_iff hk).mp q))]
      rfl
  induction n with
  | zero =>
    intro r w hl
    cases r with
    | nil => exact nil w
    | cons a r => simp at hl
  | succ n ih =>
    intro r w hl
    cases r with
    | nil => exact nil w
    | cons a r =>
      have hl' : r.length ≤ n := by simpa using hl
      have ed : ∀ z : Int, decide (k * z > 0) = decide (z > 0) := fun z => by
        rw [decide_eq_decide]
        exact mul_pos_iff hk
      show add ((k * a) :: r.map (k * ·)) (k * w) = _
      unfold add
      by_cases h : w = 0
      · rw [if_pos h, if_pos ((mul_zero_iff hk).mpr h)]
        rfl
      · rw [if_neg h, if_neg (fun q => h ((mul_zero_iff hk).mp q)), ed, ed]
        by_cases h2 : decide (a > 0) = decide (w > 0)
        · rw [if_pos h2, if_pos h2, ← ih r (w + a) hl', Int.mul_add]
        · rw [if_neg h2, if_neg h2]
          cases r with
          | nil => rfl
          | cons p r' =>
            show (if ab (k * a) ≤ ab (k * w) then if ab (k * a) ≤ ab (k * p) then add (r'.map (k * ·)) (k * w + k * a + k * p) else add ((k * p + k * a) :: r'.map (k * ·)) (k * w) else k * w :: k * a :: k * p :: r'.map (k * ·)) = List.map (k * ·) (if ab a ≤ ab w then if ab a ≤ ab p then add r' (w + a + p) else add ((p + a) :: r') w else w :: a :: p :: r')
            rw [ab_mul hk, ab_mul hk, ab_mul hk]
            by_cases h3 : ab a ≤ ab w
            · rw [if_pos h3, if_pos ((mul_le_iff hk).mpr h3)]
              by_cases h4 : ab a ≤ ab p
              · rw [if_pos h4, if_pos ((mul_le_iff hk).mpr h4), ← ih r' _ (by simp at hl'; omega), Int.mul_add, Int.mul_add]
              · rw [if_neg h4, if_neg (fun q => h4 ((mul_le_iff hk).mp q)), ← ih ((p + a) :: r') w (by simpa using hl')]
                show _ = add (k * (p + a) :: r'.map (k * ·)) (k * w)
                rw [Int.mul_add]
            · rw [if_neg h3, if_neg (fun q => h3 ((mul_le_iff hk).mp q))]
              rfl
/-- a turn that fits is laid on -/
theorem add_fix {a : Int} {r : List Int} (h : Val (a :: r)) : add r a = a :: r := by
  cases r with
  | nil =>
    unfold add
    rw [if_neg h]
  | cons p r =>
    unfold add
    rw [if_neg h.ne, if_neg ?_]
    · cases r with
      | nil => rfl
      | cons b r' =>
        dsimp only
        have := h.2.1 (by simp)
        rw [if_neg (by omega)]
    · intro q
      have ho := h.1
      rcases same_of h.tail.ne h.ne q with z | z <;> rcases ho with y | y <;> omega
/-! ### the form of a list of turns -/
def stk (ts : List Int) : List Int := ts.foldl add []
def form (ts : List Int) : List Int := (stk ts).reverse
theorem stk_app (ts : List Int) (t : Int) : stk (ts ++ [t]) = add (stk ts) t := by
  unfold stk
  rw [List.foldl_append]
  rfl
theorem fold_val : ∀ (ts : List Int) (r : List Int), Val r → Val (ts.foldl add r)
  | [], _, h => h
  | t :: ts, r, h => fold_val ts (add r t) (add_val r.length r t (Nat.le_refl _) h)
theorem stk_val (ts : List Int) : Val (stk ts) := fold_val ts [] trivial
theorem fold_led {S x : Int} (hS : 0 ≤ S) (h0 : 0 ≤ x) (h1 : x ≤ S) : ∀ (ts : List Int) (r : List Int), Val r → led S (ts.foldl add r).reverse x = led S ts (led S r.reverse x)
  | [], _, _ => rfl
  | t :: ts, r, h => by
    show led S (ts.foldl add (add r t)).reverse x = led S ts (cl S (led S r.reverse x + t))
    rw [fold_led hS h0 h1 ts (add r t) (add_val r.length r t (Nat.le_refl _) h), add_led r.length r t (Nat.le_refl _) h hS h0 h1]
theorem form_led {S x : Int} (hS : 0 ≤ S) (h0 : 0 ≤ x) (h1 : x ≤ S) (ts : List Int) : led S (form ts) x = led S ts x := fold_led hS h0 h1 ts [] trivial
theorem fold_len : ∀ (ts : List Int) (r : List Int), (ts.foldl add r).length ≤ r.length + ts.length
  | [], _ => Nat.le_refl _
  | t :: ts, r => by
    have h1 := fold_len ts (add r t)
    have h2 := add_len r.length r t (Nat.le_refl _)
    simp only [List.foldl_cons, List.length_cons]
    omega
theorem form_len (ts : List Int) : (form ts).length ≤ ts.length := by
  unfold form stk
  have := fold_len ts []
  simp at this ⊢
  exact this
theorem fold_scale {k : Int} (hk : 0 < k) : ∀ (ts : List Int) (r : List Int), (ts.map (k * ·)).foldl add (r.map (k * ·)) = (ts.foldl add r).map (k * ·)
  | [], _ => rfl
  | t :: ts, r => by
    show (ts.map (k * ·)).foldl add (add (r.map (k * ·)) (k * t)) = _
    rw [add_scale hk r.length r t (Nat.le_refl _), fold_scale hk ts]
    rfl
theorem form_scale {k : Int} (hk : 0 < k) (ts : List Int) : form (ts.map (k * ·)) = (form ts).map (k * ·) := by
  unfold form stk
  have := fold_scale hk ts []
  rw [show ([] : List Int).map (k * ·) = [] from rfl] at this
  rw [this, List.map_reverse]
theorem stk_fix : ∀ (r : List Int), Val r → stk r.reverse = r
  | [], _ => rfl
  | a :: r, h => by
    rw [List.reverse_cons, stk_app, stk_fix r h.tail, add_fix h]
theorem form_form (ts : List Int) : form (form ts) = form ts := by
  unfold form
  rw [stk_fix _ (stk_val ts)]
/-! ### what a form looks like from ahead -/
def Dn : Int → List Int → Prop
  | _, [] => True
  | a, b :: r => opp a b ∧ ab b < ab a ∧ Dn b r
def Form : List Int → Prop
  | [] => True
  | [a] => a ≠ 0
  | a :: b :: r => opp a b ∧ Dn b r
theorem dn_app : ∀ (xs : List Int) (a b c : Int), Dn a (xs ++ [b]) → opp b c → ab c < ab b → Dn a (xs ++ [b, c])
  | [], a, b, c, h, h1, h2 => ⟨h.1, h.2.1, h1, h2, trivial⟩
  | x :: xs, a, b, c, h, h1, h2 => ⟨h.1, h.2.1, dn_app xs x b c h.2.2 h1 h2⟩
theorem form_of : ∀ (r : List Int), Val r → Form r.reverse
  | [], _ => trivial
  | [a], h => h
  | a :: p :: r, h => by
    have ih := form_of (p :: r) h.2.2
    rw [List.reverse_cons]
    rw [List.reverse_cons] at ih ⊢
    cases e : r.reverse with
    | nil =>
      show Form [p, a]
      exact ⟨h.1, trivial⟩
    | cons x xs =>
      have hr : r ≠ [] := by
        intro z
        rw [z] at e
        cases e
      rw [e] at ih
      have hlt := h.2.1 hr
      cases xs with
      | nil =>
        have ih' : Form [x, p] := ih
        exact ⟨ih'.1, h.1, hlt, trivial⟩
      | cons y ys =>
        have ih' : Form (x :: y :: (ys ++ [p])) := ih
        show Form (x :: y :: ((ys ++ [p]) ++ [a]))
        rw [List.append_assoc]
        exact ⟨ih'.1, dn_app ys y p a ih'.2 h.1 hlt⟩
theorem form_form' (ts : List Int) : Form (form ts) := form_of _ (stk_val ts)
end K38
set_option Elab.async false
set_option pp.maxSteps 1200
set_option maxRecDepth 100000
set_option maxHeartbeats 4000000
set_option linter.unusedVariables false
/-! K37: unlike forms are told apart by a small room. -/
namespace K38
/-- nothing is clipped behind a turn that is greater than what follows -/
theorem nc {S : Int} : ∀ (ts : List Int) (b z : Int), Dn b ts → 0 ≤ z → z ≤ S → (b < 0 → z + (-b) - 1 ≤ S) → (0 < b → 0 ≤ z - b + 1) → led S ts z = z + ts.sum
  | [], b, z, _, _, _, _, _ => by
    show z = z + 0
    omega
  | r :: rest, b, z, h, h0, h1, h2, h3 => by
    obtain ⟨ho, hl, hr⟩ := h
    have c1 := ab_cases b
    have c2 := ab_cases r
    have e : cl S (z + r) = z + r := by
      rcases ho with ⟨p, q⟩ | ⟨p, q⟩
      · have := h3 p
        exact cl_in (by omega) (by omega)
      · have := h2 p
        exact cl_in (by omega) (by omega)
    show led S rest (cl S (z + r)) = _
    rw [e, List.sum_cons]
    have w : 0 ≤ z + r ∧ z + r ≤ S := by
      rcases ho with ⟨p, q⟩ | ⟨p, q⟩
      · have := h3 p
        omega
      · have := h2 p
        omega
    rw [nc rest r (z + r) hr w.1 w.2 (fun _ => by omega) (fun _ => by omega)]
    omega
/-- the greatest turn -/
def gr : List Int → Int
  | [] => 0
  | [a] => ab a
  | a :: b :: _ => if ab a < ab b then ab b else ab a
theorem gr_nn : ∀ (f : List Int), 0 ≤ gr f
  | [] => Int.le_refl _
  | [a] => by
    have := ab_cases a
    show 0 ≤ ab a
    omega
  | a :: b :: _ => by
    have := ab_cases a
    have := ab_cases b
    show 0 ≤ if ab a < ab b then ab b else ab a
    split <;> omega
theorem const {S : Int} {g : List Int} (h1 : 1 ≤ S) (h2 : S ≤ gr g) {x : Int} (x0 : 0 ≤ x) (x1 : x ≤ S) : led S g x = led S g 0 := by
  have wall : ∀ (a y z : Int), S ≤ ab a → 0 ≤ y → y ≤ S → 0 ≤ z → z ≤ S → cl S (y + a) = cl S (z + a) := fun a y z ha _ _ _ _ => by
    rcases ab_cases a with ⟨q, e⟩ | ⟨q, e⟩
    · rw [cl_lo (by omega) (by omega), cl_lo (by omega) (by omega)]
    · rw [cl_hi (by omega) (by omega), cl_hi (by omega) (by omega)]
  match g, h2 with
  | [], h2 =>
    have : S ≤ 0 := h2
    omega
  | [a], h2 =>
    have h2' : S ≤ ab a := h2
    show cl S (x + a) = cl S (0 + a)
    exact wall a x 0 h2' x0 x1 (by omega) (by omega)
  | a :: b :: r, h2 =>
    have h2' : S ≤ if ab a < ab b then ab b else ab a := h2
    by_cases ha : S ≤ ab a
    · show led S (b :: r) (cl S (x + a)) = led S (b :: r) (cl S (0 + a))
      rw [wall a x 0 ha x0 x1 (by omega) (by omega)]
    · have hb : S ≤ ab b := by
        split at h2' <;> omega
      show led S r (cl S (cl S (x + a) + b)) = led S r (cl S (cl S (0 + a) + b))
      have r1 := cl_rng (S := S) (x := x + a) (by omega)
      have r2 := cl_rng (S := S) (x := 0 + a) (by omega)
      rw [wall b _ _ hb r1.1 r1.2 r2.1 r2.2]
theorem vary {f : List Int} (hf : Form f) : led (gr f + 1) f 0 ≠ led (gr f + 1) f (gr f + 1) := by
  match f, hf with
  | [], _ =>
    show (0 : Int) ≠ 0 + 1
    omega
  | [a], ha =>
    have ha' : a ≠ 0 := ha
    show cl (ab a + 1) (0 + a) ≠ cl (ab a + 1) (ab a + 1 + a)
    rcases ab_cases a with ⟨q, e⟩ | ⟨q, e⟩
    · rw [cl_lo (by omega) (by omega), cl_in (by omega) (by omega)]
      omega
    · rw [cl_in (by omega) (by omega), cl_hi (by omega) (by omega)]
      omega
  | a :: b :: r, ⟨ho, hd⟩ =>
    have ca := ab_cases a
    have cb := ab_cases b
    by_cases hab : ab a < ab b
    · have eg : gr (a :: b :: r) = ab b := if_pos hab
      rw [eg]
      show led (ab b + 1) r (cl (ab b + 1) (cl (ab b + 1) (0 + a) + b)) ≠ led (ab b + 1) r (cl (ab b + 1) (cl (ab b + 1) (ab b + 1 + a) + b))
      rcases ho with ⟨p, q⟩ | ⟨p, q⟩
      · rw [cl_in (S := ab b + 1) (x := 0 + a) (by omega) (by omega), cl_lo (S := ab b + 1) (x := 0 + a + b) (by omega) (by omega), cl_hi (S := ab b + 1) (x := ab b + 1 + a) (by omega) (by omega), cl_in (S := ab b + 1) (x := ab b + 1 + b) (by omega) (by omega)]
        rw [nc r b 0 hd (by omega) (by omega) (fun _ => by omega) (fun _ => by omega), nc r b (ab b + 1 + b) hd (by omega) (by omega) (fun _ => by omega) (fun _ => by omega)]
        omega
      · rw [cl_lo (S := ab b + 1) (x := 0 + a) (by omega) (by omega), cl_in (S := ab b + 1) (x := 0 + b) (by omega) (by omega), cl_in (S := ab b + 1) (x := ab b + 1 + a) (by omega) (by omega), cl_hi (S := ab b + 1) (x := ab b + 1 + a + b) (by omega) (by omega)]
        rw [nc r b (0 + b) hd (by omega) (by omega) (fun _ => by omega) (fun _ => by omega), nc r b (ab b + 1) hd (by omega) (by omega) (fun _ => by omega) (fun _ => by omega)]
        omega
    · have eg : gr (a :: b :: r) = ab a := if_neg hab
      rw [eg]
      show led (ab a + 1) r (cl (ab a + 1) (cl (ab a + 1) (0 + a) + b)) ≠ led (ab a + 1) r (cl (ab a + 1) (cl (ab a + 1) (ab a + 1 + a) + b))
      rcases ho with ⟨p, q⟩ | ⟨p, q⟩
      · rw [cl_in (S := ab a + 1) (x := 0 + a) (by omega) (by omega), cl_in (S := ab a + 1) (x := 0 + a + b) (by omega) (by omega), cl_hi (S := ab a + 1) (x := ab a + 1 + a) (by omega) (by omega), cl_in (S := ab a + 1) (x := ab a + 1 + b) (by omega) (by omega)]
        rw [nc r b (0 + a + b) hd (by omega) (by omega) (fun _ => by omega) (fun _ => by omega), nc r b (ab a + 1 + b) hd (by omega) (by omega) (fun _ => by omega) (fun _ => by omega)]
        omega
      · rw [cl_lo (S := ab a + 1) (x := 0 + a) (by omega) (by omega), cl_in (S := ab a + 1) (x := 0 + b) (by omega) (by omega), cl_in (S := ab a + 1) (x := ab a + 1 + a) (by omega) (by omega), cl_in (S := ab a + 1) (x := ab a + 1 + a + b) (by omega) (by omega)]
        rw [nc r b (0 + b) hd (by omega) (by omega) (fun _ => by omega) (fun _ => by omega), nc r b (ab a + 1 + a + b) hd (by omega) (by omega) (fun _ => by omega) (fun _ => by omega)]
        omega
/-- told apart by a room of at most m -/
def Apart (f g : List Int) (m : Int) : Prop := ∃ S x : Int, 0 ≤ x ∧ x ≤ S ∧ S ≤ m ∧ led S f x ≠ led S g x
theorem Apart.symm {f g : List Int} {m : Int} : Apart f g m → Apart g f m
  | ⟨S, x, a, b, c, d⟩ => ⟨S, x, a, b, c, fun e => d e.symm⟩
theorem Apart.mono {f g : List Int} {m n : Int} (h : m ≤ n) : Apart f g m → Apart f g n
  | ⟨S, x, a, b, c, d⟩ => ⟨S, x, a, b, by omega, d⟩
theorem apart_gr {f g : List Int} (hf : Form f) (h : gr f < gr g) : Apart f g (gr f + 1) := by
  have h0 := gr_nn f
  by_cases e : led (gr f + 1) f 0 = led (gr f + 1) g 0
  · refine ⟨gr f + 1, gr f + 1, by omega, by omega, by omega, fun q => vary hf ?_⟩
    rw [q, e]
    exact (const (by omega) (by omega) (by omega) (by omega)).symm
  · exact ⟨gr f + 1, 0, by omega, by omega, by omega, e⟩
/-! ### forms cut in two -/
theorem Form.ne {a : Int} {f : List Int} (h : Form (a :: f)) : a ≠ 0 := by
  cases f with
  | nil => exact h
  | cons b r =>
    rcases h.1 with q | q <;> omega
theorem dn_cut : ∀ (xs : List Int) (a q : Int) (t : List Int), Dn a (xs ++ q :: t) → ab q < ab a ∧ q ≠ 0 ∧ Dn q t
  | [], a, q, t, h => ⟨h.2.1, by rcases h.1 with z | z <;> omega, h.2.2⟩
  | x :: xs, a, q, t, h => by
    have := dn_cut xs x q t h.2.2
    have := h.2.1
    exact ⟨by omega, by omega, (dn_cut xs x q t h.2.2).2.2⟩
/-- a turn that stands somewhere behind the first one -/
theorem form_cut {a : Int} {xs : List Int} {q : Int} {t : List Int} (h : Form (a :: xs ++ q :: t)) : q ≠ 0 ∧ Dn q t ∧ ab q ≤ gr (a :: xs ++ q :: t) := by
  cases xs with
  | nil =>
    have h' : Form (a :: q :: t) := h
    refine ⟨by rcases h'.1 with z | z <;> omega, h'.2, ?_⟩
    show ab q ≤ if ab a < ab q then ab q else ab a
    split <;> omega
  | cons b ys =>
    have h' : Form (a :: b :: (ys ++ q :: t)) := h
    obtain ⟨z1, z2, z3⟩ := dn_cut ys b q t h'.2
    refine ⟨z2, z3, ?_⟩
    show ab q ≤ if ab a < ab b then ab b else ab a
    split <;> omega
/-- the turn ahead of a turn that stands behind the first one -/
theorem dn_cut2 : ∀ (xs : List Int) (a r q : Int) (t : List Int), Dn a (xs ++ r :: q :: t) → opp r q ∧ ab q < ab r
  | [], a, r, q, t, h => ⟨h.2.2.1, h.2.2.2.1⟩
  | x :: xs, a, r, q, t, h => dn_cut2 xs x r q t h.2.2
theorem form_cut2 {a : Int} {xs : List Int} {r q : Int} {t : List Int} (h : Form (a :: xs ++ r :: q :: t)) : opp r q ∧ ab q < ab r := by
  cases xs with
  | nil =>
    have h' : Form (a :: r :: q :: t) := h
    exact ⟨h'.2.1, h'.2.2.1⟩
  | cons b ys =>
    have h' : Form (a :: b :: (ys ++ r :: q :: t)) := h
    exact dn_cut2 ys b r q t h'.2
theorem dn_gr {b : Int} {r : List Int} (h : Dn b r) (hb : b ≠ 0) : gr (b :: r) = ab b := by
  cases r with
  | nil => rfl
  | cons c r =>
    show (if ab b < ab c then ab c else ab b) = ab b
    have := h.2.1
    rw [if_neg (by omega)]
/-- the common end of two lists -/
theorem split_end : ∀ (r s : List Int), r ≠ s → ∃ t : List Int, (∃ r' p s' q, r = t ++ p :: r' ∧ s = t ++ q :: s' ∧ p ≠ q) ∨ (∃ q s', r = t ∧ s = t ++ q :: s') ∨ (∃ q r', s = t ∧ r = t ++ q :: r')
  | [], [], h => absurd rfl h
  | [], q :: s', _ => ⟨[], .inr (.inl ⟨q, s', rfl, rfl⟩)⟩
  | p :: r', [], _ => ⟨[], .inr (.inr ⟨p, r', rfl, rfl⟩)⟩
  | p :: r, q :: s, h => by
    by_cases e : p = q
    · subst e
      obtain ⟨t, z⟩ := split_end r s (fun q => h (by rw [q]))
      refine ⟨p :: t, ?_⟩
      rcases z with ⟨r', a, s', b, e1, e2, e3⟩ | ⟨b, s', e1, e2⟩ | ⟨b, r', e1, e2⟩
      · exact .inl ⟨r', a, s', b, by rw [e1]; rfl, by rw [e2]; rfl, e3⟩
      · exact .inr (.inl ⟨b, s', by rw [e1], by rw [e2]; rfl⟩)
      · exact .inr (.inr ⟨b, r', by rw [e1], by rw [e2]; rfl⟩)
    · exact ⟨[], .inl ⟨r, p, s, q, rfl, rfl, e⟩⟩
theorem split_tail (f g : List Int) (h : f ≠ g) : ∃ t : List Int, (∃ f' p g' q, f = f' ++ p :: t ∧ g = g' ++ q :: t ∧ p ≠ q) ∨ (∃ g' q, f = t ∧ g = g' ++ q :: t) ∨ (∃ f' q, g = t ∧ f = f' ++ q :: t) := by
  obtain ⟨t, z⟩ := split_end f.reverse g.reverse (fun e => h (by rw [← List.reverse_reverse f, e, List.reverse_reverse]))
  have rv : ∀ (l u : List Int) (p : Int), l.reverse = t ++ p :: u → l = u.reverse ++ p :: t.reverse := fun l u p e => by
    rw [← List.reverse_reverse l, e, List.reverse_append, List.reverse_cons, List.append_assoc]
    rfl
  have rw0 : ∀ l : List Int, l.reverse = t → l = t.reverse := fun l e => by rw [← e, List.reverse_reverse]
  refine ⟨t.reverse, ?_⟩
  rcases z with ⟨r', a, s', b, e1, e2, e3⟩ | ⟨b, s', e1, e2⟩ | ⟨b, r', e1, e2⟩
  · exact .inl ⟨r'.reverse, a, s'.reverse, b, rv _ _ _ e1, rv _ _ _ e2, e3⟩
  · exact .inr (.inl ⟨s'.reverse, b, rw0 _ e1, rv _ _ _ e2⟩)
  · exact .inr (.inr ⟨r'.reverse, b, rw0 _ e1, rv _ _ _ e2⟩)
/-- one form is the end of another one -/
theorem apart_end {f g' : List Int} {q : Int} (hg : Form (g' ++ q :: f)) (he : gr f = gr (g' ++ q :: f)) : Apart f (g' ++ q :: f) (gr f + 1) := by
  cases f with
  | nil =>
    exfalso
    have e0 : gr ([] : List Int) = 0 := rfl
    cases g' with
    | nil =>
      have h1 : q ≠ 0 := hg
      have e1 : gr ([] ++ [q]) = ab q := rfl
      have := ab_cases q
      omega
    | cons a xs =>
      obtain ⟨h1, _, h3⟩ := form_cut hg
      have := ab_cases q
      omega
  | cons b rest =>
    cases g' with
    | cons a xs =>
      exfalso
      have h1 := form_cut2 hg
      obtain ⟨h2, h3, h4⟩ := form_cut hg
      have e : gr (b :: rest) = ab b := dn_gr h3.2.2 (by rcases h1.1 with z | z <;> omega)
      omega
    | nil =>
      have hg' : Form (q :: b :: rest) := hg
      obtain ⟨ho, hd⟩ := hg'
      have hb : b ≠ 0 := by rcases ho with z | z <;> omega
      have e : gr (b :: rest) = ab b := dn_gr hd hb
      have e2 : gr ([] ++ q :: b :: rest) = if ab q < ab b then ab b else ab q := rfl
      have hq : ab q ≤ ab b := by
        rw [e, e2] at he
        split at he <;> omega
      have cq := ab_cases q
      have cb := ab_cases b
      rw [e]
      rcases ho with ⟨p, z⟩ | ⟨p, z⟩
      · refine ⟨ab b + 1, ab b, by omega, by omega, by omega, ?_⟩
        show led (ab b + 1) rest (cl (ab b + 1) (ab b + b)) ≠ led (ab b + 1) rest (cl (ab b + 1) (cl (ab b + 1) (ab b + q) + b))
        rw [cl_lo (S := ab b + 1) (x := ab b + b) (by omega) (by omega), cl_hi (S := ab b + 1) (x := ab b + q) (by omega) (by omega), cl_in (S := ab b + 1) (x := ab b + 1 + b) (by omega) (by omega)]
        rw [nc rest b 0 hd (by omega) (by omega) (fun _ => by omega) (fun _ => by omega), nc rest b (ab b + 1 + b) hd (by omega) (by omega) (fun _ => by omega) (fun _ => by omega)]
        omega
      · refine ⟨ab b + 1, 1, by omega, by omega, by omega, ?_⟩
        show led (ab b + 1) rest (cl (ab b + 1) (1 + b)) ≠ led (ab b + 1) rest (cl (ab b + 1) (cl (ab b + 1) (1 + q) + b))
        rw [cl_hi (S := ab b + 1) (x := 1 + b) (by omega) (by omega), cl_lo (S := ab b + 1) (x := 1 + q) (by omega) (by omega), cl_in (S := ab b + 1) (x := 0 + b) (by omega) (by omega)]
        rw [nc rest b (ab b + 1) hd (by omega) (by omega) (fun _ => by omega) (fun _ => by omega), nc rest b (0 + b) hd (by omega) (by omega) (fun _ => by omega) (fun _ => by omega)]
        omega
/-- .. the lesser of two unlike turns of one sign ahead of one end -/
theorem apart_two {f' g' t : List Int} {p q : Int} (hf : Form (f' ++ p :: t)) (hg : Form (g' ++ q :: t)) (he : gr (f' ++ p :: t) = gr (g' ++ q :: t)) (hs : (0 < p ∧ 0 < q) ∨ (p < 0 ∧ q < 0)) (hl : ab p < ab q) : Apart (f' ++ p :: t) (g' ++ q :: t) (gr (f' ++ p :: t) + 1) := by
  have cp := ab_cases p
  have cq := ab_cases q
  -- the room one beyond p, where what is ahead of p leads the wall behind p to itself
  have main : (∀ b : Int, b ≠ 0 → ab b = ab p + 1 → Dn b t ∨ True) → ab p ≤ gr (f' ++ p :: t) → (∀ z : Int, 0 ≤ z → z ≤ ab p + 1 → (p < 0 → z ≤ 1) → (0 < p → ab p ≤ z) → led (ab p + 1) t z = z + t.sum) →
      led (ab p + 1) f' (if 0 < p then 0 else ab p + 1) = (if 0 < p then 0 else ab p + 1) → Apart (f' ++ p :: t) (g' ++ q :: t) (gr (f' ++ p :: t) + 1) := by
    intro _ h1 h2 h3
    refine ⟨ab p + 1, if 0 < p then 0 else ab p + 1, by split <;> omega, by split <;> omega, by omega, ?_⟩
    rw [led_app, led_app, h3]
    have rg := led_rng (S := ab p + 1) (by omega) g' (x := if 0 < p then 0 else ab p + 1) (by split <;> omega) (by split <;> omega)
    show led (ab p + 1) t (cl (ab p + 1) ((if 0 < p then 0 else ab p + 1) + p)) ≠ led (ab p + 1) t (cl (ab p + 1) (led (ab p + 1) g' (if 0 < p then 0 else ab p + 1) + q))
    rcases hs with ⟨p0, q0⟩ | ⟨p0, q0⟩
    · rw [if_pos p0] at rg ⊢
      rw [cl_in (S := ab p + 1) (x := 0 + p) (by omega) (by omega), cl_hi (S := ab p + 1) (by omega) (by omega), h2 (0 + p) (by omega) (by omega) (fun _ => by omega) (fun _ => by omega), h2 (ab p + 1) (by omega) (by omega) (fun _ => by omega) (fun _ => by omega)]
      omega
    · rw [if_neg (by omega)] at rg ⊢
      rw [cl_in (S := ab p + 1) (x := ab p + 1 + p) (by omega) (by omega), cl_lo (S := ab p + 1) (by omega) (by omega), h2 (ab p + 1 + p) (by omega) (by omega) (fun _ => by omega) (fun _ => by omega), h2 0 (by omega) (by omega) (fun _ => by omega) (fun _ => by omega)]
      omega
  -- what follows where all that follows is less than p, or as great
  have tail : Dn p t → ∀ z : Int, 0 ≤ z → z ≤ ab p + 1 → (p < 0 → z ≤ 1) → (0 < p → ab p ≤ z) → led (ab p + 1) t z = z + t.sum := fun hd z h0 h1 h2 h3 =>
    nc t p z hd h0 h1 (fun w => by have := h2 w; omega) (fun w => by have := h3 w; omega)
  cases f' with
  | cons a xs =>
    obtain ⟨hp, hd, hgr⟩ := form_cut hf
    refine main (fun _ _ _ => .inr trivial) hgr (tail hd) ?_
    -- the turn ahead of p
    have last : ∀ ys : List Int, ys = a :: xs → ∃ zs r, ys = zs ++ [r] := fun ys e => by
      refine ⟨ys.dropLast, ys.getLast (by rw [e]; simp), ?_⟩
      rw [List.dropLast_concat_getLast]
    obtain ⟨zs, r, e⟩ := last (a :: xs) rfl
    rw [e] at hf ⊢
    rw [List.append_assoc] at hf
    have hf' : Form (zs ++ r :: p :: t) := hf
    rw [led_app]
    show cl (ab p + 1) (led (ab p + 1) zs (if 0 < p then 0 else ab p + 1) + r) = _
    have rg := led_rng (S := ab p + 1) (by omega) zs (x := if 0 < p then 0 else ab p + 1) (by split <;> omega) (by split <;> omega)
    cases zs with
    | nil =>
      have ho : opp r p := hf'.1
      show cl (ab p + 1) ((if 0 < p then 0 else ab p + 1) + r) = _
      rcases ho with ⟨z, y⟩ | ⟨z, y⟩
      · rw [if_neg (by omega), cl_hi (by omega) (by omega)]
      · rw [if_pos y, cl_lo (by omega) (by omega)]
    | cons c zs =>
      obtain ⟨ho, hlt⟩ := form_cut2 hf'
      have cr := ab_cases r
      rcases ho with ⟨z, y⟩ | ⟨z, y⟩
      · rw [if_neg (by omega)] at rg ⊢
        rw [cl_hi (by omega) (by omega)]
      · rw [if_pos y] at rg ⊢
        rw [cl_lo (by omega) (by omega)]
  | nil =>
    have hp : p ≠ 0 := by omega
    cases t with
    | nil => exact main (fun _ _ _ => .inr trivial) (by show ab p ≤ ab p; omega) (tail trivial) rfl
    | cons s t' =>
      have hf' : Form (p :: s :: t') := hf
      obtain ⟨ho, hd⟩ := hf'
      have cs := ab_cases s
      have eg : gr ([] ++ p :: s :: t') = if ab p < ab s then ab s else ab p := rfl
      by_cases hps : ab s ≤ ab p
      · refine main (fun _ _ _ => .inr trivial) (by rw [eg]; split <;> omega) (fun z h0 h1 h2 h3 => ?_) rfl
        show led (ab p + 1) t' (cl (ab p + 1) (z + s)) = z + (s :: t').sum
        have w : 0 ≤ z + s ∧ z + s ≤ ab p + 1 := by
          rcases ho with ⟨a, b⟩ | ⟨a, b⟩
          · have := h3 a
            omega
          · have := h2 a
            omega
        rw [cl_in w.1 w.2, nc t' s (z + s) hd w.1 w.2 (fun _ => by omega) (fun _ => by omega), List.sum_cons]
        omega
      · rw [if_pos (by omega)] at eg
        cases g' with
        | cons a xs =>
          exfalso
          have h1 := form_cut2 hg
          obtain ⟨_, _, h4⟩ := form_cut hg
          omega
        | nil =>
          have e2 : gr ([] ++ q :: s :: t') = if ab q < ab s then ab s else ab q := rfl
          have hq : ab q ≤ ab s := by
            rw [eg, e2] at he
            split at he <;> omega
          rw [eg]
          rcases ho with ⟨p0, s0⟩ | ⟨p0, s0⟩
          · refine ⟨ab s + 1, ab s - p, by omega, by omega, by omega, ?_⟩
            show led (ab s + 1) t' (cl (ab s + 1) (cl (ab s + 1) (ab s - p + p) + s)) ≠ led (ab s + 1) t' (cl (ab s + 1) (cl (ab s + 1) (ab s - p + q) + s))
            rw [cl_in (S := ab s + 1) (x := ab s - p + p) (by omega) (by omega), cl_in (S := ab s + 1) (x := ab s - p + p + s) (by omega) (by omega), cl_hi (S := ab s + 1) (x := ab s - p + q) (by omega) (by omega), cl_in (S := ab s + 1) (x := ab s + 1 + s) (by omega) (by omega)]
            rw [nc t' s (ab s - p + p + s) hd (by omega) (by omega) (fun _ => by omega) (fun _ => by omega), nc t' s (ab s + 1 + s) hd (by omega) (by omega) (fun _ => by omega) (fun _ => by omega)]
            omega
          · refine ⟨ab s + 1, 1 - p, by omega, by omega, by omega, ?_⟩
            show led (ab s + 1) t' (cl (ab s + 1) (cl (ab s + 1) (1 - p + p) + s)) ≠ led (ab s + 1) t' (cl (ab s + 1) (cl (ab s + 1) (1 - p + q) + s))
            rw [cl_in (S := ab s + 1) (x := 1 - p + p) (by omega) (by omega), cl_hi (S := ab s + 1) (x := 1 - p + p + s) (by omega) (by omega), cl_lo (S := ab s + 1) (x := 1 - p + q) (by omega) (by omega), cl_in (S := ab s + 1) (x := 0 + s) (by omega) (by omega)]
            rw [nc t' s (ab s + 1) hd (by omega) (by omega) (fun _ => by omega) (fun _ => by omega), nc t' s (0 + s) hd (by omega) (by omega) (fun _ => by omega) (fun _ => by omega)]
            omega
theorem form_last {f' : List Int} {p : Int} {t : List Int} (hf : Form (f' ++ p :: t)) : p ≠ 0 ∧ (∀ s r, t = s :: r → opp p s) := by
  cases f' with
  | nil =>
    refine ⟨Form.ne (f := t) hf, fun s r e => ?_⟩
    subst e
    have h' : Form (p :: s :: r) := hf
    exact h'.1
  | cons a xs =>
    obtain ⟨h1, h2, _⟩ := form_cut hf
    refine ⟨h1, fun s r e => ?_⟩
    subst e
    exact h2.1
/-- unlike forms are told apart -/
theorem apart {f g : List Int} (hf : Form f) (hg : Form g) (h : f ≠ g) : Apart f g ((if gr f < gr g then gr f else gr g) + 1) := by
  by_cases h1 : gr f < gr g
  · rw [if_pos h1]
    exact apart_gr hf h1
  · rw [if_neg h1]
    by_cases h2 : gr g < gr f
    · exact (apart_gr hg h2).symm
    · have he : gr f = gr g := by omega
      obtain ⟨t, z⟩ := split_tail f g h
      rcases z with ⟨f', p, g', q, e1, e2, e3⟩ | ⟨g', q, e1, e2⟩ | ⟨f', q, e1, e2⟩
      · subst e1
        subst e2
        obtain ⟨p0, pt⟩ := form_last hf
        obtain ⟨q0, qt⟩ := form_last hg
        by_cases hs : (0 < p ∧ 0 < q) ∨ (p < 0 ∧ q < 0)
        · have cp := ab_cases p
          have cq := ab_cases q
          by_cases hl : ab p < ab q
          · rw [← he]
            exact apart_two hf hg he hs hl
          · exact (apart_two hg hf he.symm (by omega) (by omega)).symm
        · -- unlike signs: nothing follows
          have ht : t = [] := by
            cases t with
            | nil => rfl
            | cons s r =>
              have a := pt s r rfl
              have b := qt s r rfl
              exfalso
              rcases a with a | a <;> rcases b with b | b <;> omega
          subst ht
          have rf := led_rng (S := 1) (by omega) f' (x := 0) (by omega) (by omega)
          have rg := led_rng (S := 1) (by omega) g' (x := 0) (by omega) (by omega)
          refine ⟨1, 0, by omega, by omega, by have := gr_nn (g' ++ [q]); omega, ?_⟩
          rw [led_app, led_app]
          show cl 1 (led 1 f' 0 + p) ≠ cl 1 (led 1 g' 0 + q)
          by_cases hp : 0 < p
          · rw [cl_hi (S := 1) (x := led 1 f' 0 + p) (by omega) (by omega), cl_lo (S := 1) (x := led 1 g' 0 + q) (by omega) (by omega)]
            omega
          · rw [cl_lo (S := 1) (x := led 1 f' 0 + p) (by omega) (by omega), cl_hi (S := 1) (x := led 1 g' 0 + q) (by omega) (by omega)]
            omega
      · subst e1
        subst e2
        rw [← he]
        exact apart_end hg he
      · subst e1
        subst e2
        exact (apart_end hf he.symm).symm
end K38
set_option Elab.async false
set_option maxRecDepth 100000
set_option maxHeartbeats 4000000
set_option linter.all false
/-! K38: the direction at each place of a form, and where forms lead in one room and the next one. -/
namespace K38
def dirR : List Int → Int → Bool
  | [], _ => false
  | t :: r, p => if p ≤ ab t then decide (t > 0) else dirR r p
def dir (f : List Int) (p : Int) : Bool := dirR f.reverse p
theorem ab_nn (t : Int) : 0 ≤ ab t := by
  have := ab_cases t
  omega
theorem dirR_out : ∀ (r : List Int) (p : Int), (∀ t ∈ r, ab t < p) → dirR r p = false
  | [], _, _ => rfl
  | t :: r, p, h => by
    have := h t List.mem_cons_self
    show (if p ≤ ab t then decide (t > 0) else dirR r p) = false
    rw [if_neg (by omega)]
    exact dirR_out r p fun u hu => h u (List.mem_cons_of_mem _ hu)
/-- the last turn that is as great as S -/
theorem cutR {S : Int} : ∀ (r : List Int), (∃ t ∈ r, S ≤ ab t) → ∃ (f1 : List Int) (b : Int) (ts : List Int), r.reverse = f1 ++ b :: ts ∧ S ≤ ab b ∧ (∀ c ∈ ts, ab c < S) ∧ dirR r S = decide (b > 0)
  | [], ⟨t, h, _⟩ => by cases h
  | t :: r, h => by
    by_cases c : S ≤ ab t
    · refine ⟨r.reverse, t, [], by rw [List.reverse_cons], c, (fun c h => by cases h), ?_⟩
      show (if S ≤ ab t then decide (t > 0) else dirR r S) = _
      rw [if_pos c]
    · obtain ⟨u, hu, hs⟩ := h
      have : ∃ t ∈ r, S ≤ ab t := by
        rcases List.mem_cons.mp hu with z | z
        · rw [z] at hs
          exact absurd hs c
        · exact ⟨u, z, hs⟩
      obtain ⟨f1, b, ts, e, hb, hc, hd⟩ := cutR r this
      refine ⟨f1, b, ts ++ [t], by rw [List.reverse_cons, e]; simp, hb, fun x hx => ?_, ?_⟩
      · rcases List.mem_append.mp hx with z | z
        · exact hc x z
        · rw [List.mem_singleton.mp z]
          omega
      · show (if S ≤ ab t then decide (t > 0) else dirR r S) = _
        rw [if_neg c, hd]
theorem gr_at {f : List Int} {S : Int} (h1 : 1 ≤ S) (h2 : S ≤ gr f) : ∃ t ∈ f, S ≤ ab t := by
  match f, h2 with
  | [], h2 =>
    have : S ≤ 0 := h2
    omega
  | [a], h2 => exact ⟨a, List.mem_cons_self, h2⟩
  | a :: b :: r, h2 =>
    have h2' : S ≤ if ab a < ab b then ab b else ab a := h2
    split at h2'
    · exact ⟨b, List.mem_cons_of_mem _ List.mem_cons_self, h2'⟩
    · exact ⟨a, List.mem_cons_self, h2'⟩
theorem dn_le : ∀ (r : List Int) (b : Int), Dn b r → ∀ c ∈ r, ab c < ab b
  | [], b, _, c, h => by cases h
  | x :: r, b, h, c, hc => by
    rcases List.mem_cons.mp hc with z | z
    · rw [z]
      exact h.2.1
    · have := dn_le r x h.2.2 c z
      have := h.2.1
      omega
theorem le_gr {f : List Int} (hf : Form f) : ∀ t ∈ f, ab t ≤ gr f := by
  match f, hf with
  | [], _ => exact fun t h => by cases h
  | [a], _ =>
    intro t h
    rw [List.mem_singleton.mp h]
    exact Int.le_refl _
  | a :: b :: r, hf =>
    intro t h
    have e : gr (a :: b :: r) = if ab a < ab b then ab b else ab a := rfl
    rw [e]
    have hd := dn_le r b hf.2
    rcases List.mem_cons.mp h with z | z
    · rw [z]
      split <;> omega
    · rcases List.mem_cons.mp z with z | z
      · rw [z]
        split <;> omega
      · have := hd t z
        split <;> omega
theorem dir_out {f : List Int} (hf : Form f) {S : Int} (h : gr f < S) : dir f S = false := dirR_out _ _ fun t ht => by
  have := le_gr hf t (List.mem_reverse.mp ht)
  omega
theorem tail_dn {S : Int} {f1 ts : List Int} {b : Int} (hf : Form (f1 ++ b :: ts)) (h1 : 1 ≤ S) (hb : S ≤ ab b) (hc : ∀ c ∈ ts, ab c < S) : Dn b ts := by
  cases f1 with
  | nil =>
    cases ts with
    | nil => exact trivial
    | cons c r =>
      have hf : Form (b :: c :: r) := hf
      have := hc c List.mem_cons_self
      exact ⟨hf.1, by omega, hf.2⟩
  | cons a xs => exact (form_cut (a := a) (xs := xs) hf).2.1
theorem dn_sw {b b' : Int} (h : (0 < b ∧ 0 < b') ∨ (b < 0 ∧ b' < 0)) : ∀ {ts : List Int}, Dn b ts → (∀ c ∈ ts, ab c < ab b') → Dn b' ts
  | [], _, _ => trivial
  | c :: r, hd, hc => by
    refine ⟨?_, hc c List.mem_cons_self, hd.2.2⟩
    have ho : opp b c := hd.1
    unfold opp at ho ⊢
    omega
/-- a room as great as one of the turns, and the one ahead of it -/
theorem wall {f : List Int} (hf : Form f) {S : Int} (h1 : 1 ≤ S) (h2 : S ≤ gr f) : ∃ q : Int, (∀ x, 0 ≤ x → x ≤ S → led S f x = (if dir f S = true then S else 0) + q) ∧ ∀ x, 0 ≤ x → x ≤ S - 1 → led (S - 1) f x = (if dir f S = true then S - 1 else 0) + q := by
  obtain ⟨t, ht, hs⟩ := gr_at h1 h2
  obtain ⟨f1, b, ts, e, hb, hc, hd⟩ := cutR f.reverse ⟨t, List.mem_reverse.mpr ht, hs⟩
  rw [List.reverse_reverse] at e
  have hd : dir f S = decide (b > 0) := hd
  rw [hd]
  rw [e] at hf ⊢
  have dn := tail_dn hf h1 hb hc
  have cb := ab_cases b
  have cS := ab_cases S
  have cS' := ab_cases (-S)
  refine ⟨ts.sum, fun x x0 x1 => ?_, fun x x0 x1 => ?_⟩
  · rw [led_app]
    have r := led_rng (S := S) (by omega) f1 x0 x1
    show led S ts (cl S (led S f1 x + b)) = _
    by_cases p : b > 0
    · rw [decide_eq_true p, if_pos rfl, cl_hi (by omega) (by omega)]
      exact nc ts S S (dn_sw (by omega) dn (fun c hc' => by have := hc c hc'; omega)) (by omega) (Int.le_refl _) (fun _ => by omega) (fun _ => by omega)
    · rw [decide_eq_false p, if_neg (by simp), cl_lo (by omega) (by omega)]
      exact nc ts (-S) 0 (dn_sw (by omega) dn (fun c hc' => by have := hc c hc'; omega)) (by omega) (by omega) (fun _ => by omega) (fun _ => by omega)
  · rw [led_app]
    have r := led_rng (S := S - 1) (by omega) f1 x0 x1
    show led (S - 1) ts (cl (S - 1) (led (S - 1) f1 x + b)) = _
    by_cases p : b > 0
    · rw [decide_eq_true p, if_pos rfl, cl_hi (by omega) (by omega)]
      exact nc ts S (S - 1) (dn_sw (by omega) dn (fun c hc' => by have := hc c hc'; omega)) (by omega) (Int.le_refl _) (fun _ => by omega) (fun _ => by omega)
    · rw [decide_eq_false p, if_neg (by simp), cl_lo (by omega) (by omega)]
      exact nc ts (-S) 0 (dn_sw (by omega) dn (fun c hc' => by have := hc c hc'; omega)) (by omega) (by omega) (fun _ => by omega) (fun _ => by omega)
/-- a room that is greater than all turns -/
theorem beyond {f : List Int} (hf : Form f) {S : Int} (h : gr f < S) : led S f 0 = led (S - 1) f 0 ∧ led S f S = led (S - 1) f (S - 1) + 1 := by
  match f, hf, h with
  | [], _, _ =>
    refine ⟨rfl, ?_⟩
    show S = S - 1 + 1
    omega
  | [a], hf, h =>
    have h' : ab a < S := h
    have ca := ab_cases a
    show cl S (0 + a) = cl (S - 1) (0 + a) ∧ cl S (S + a) = cl (S - 1) (S - 1 + a) + 1
    rcases ca with ⟨z, e⟩ | ⟨z, e⟩
    · rw [cl_lo (by omega) (by omega), cl_lo (by omega) (by omega), cl_in (by omega) (by omega), cl_in (by omega) (by omega)]
      omega
    · rw [cl_in (by omega) (by omega), cl_in (by omega) (by omega), cl_hi (by omega) (by omega), cl_hi (by omega) (by omega)]
      omega
  | a :: b :: r, hf, h =>
    have h' : (if ab a < ab b then ab b else ab a) < S := h
    have ha : ab a < S := by split at h' <;> omega
    have hb : ab b < S := by split at h' <;> omega
    have ca := ab_cases a
    have cb := ab_cases b
    have ho : opp a b := hf.1
    have dn : Dn b r := hf.2
    unfold opp at ho
    show led S r (cl S (cl S (0 + a) + b)) = led (S - 1) r (cl (S - 1) (cl (S - 1) (0 + a) + b)) ∧ led S r (cl S (cl S (S + a) + b)) = led (S - 1) r (cl (S - 1) (cl (S - 1) (S - 1 + a) + b)) + 1
    have z0 : 0 ≤ S := by omega
    have z1 : 0 ≤ S - 1 := by omega
    rcases ho with ⟨p, q⟩ | ⟨p, q⟩
    · rw [cl_in (S := S) (x := 0 + a) (by omega) (by omega), cl_in (S := S - 1) (x := 0 + a) (by omega) (by omega), cl_hi (S := S) (x := S + a) z0 (by omega), cl_hi (S := S - 1) (x := S - 1 + a) z1 (by omega), cl_in (S := S) (x := S + b) (by omega) (by omega), cl_in (S := S - 1) (x := S - 1 + b) (by omega) (by omega)]
      have k2 := nc (S := S) r b (S + b) dn (by omega) (by omega) (fun _ => by omega) (fun _ => by omega)
      have k3 := nc (S := S - 1) r b (S - 1 + b) dn (by omega) (by omega) (fun _ => by omega) (fun _ => by omega)
      rw [k2, k3]
      refine ⟨?_, by omega⟩
      by_cases w : 0 + a + b ≤ 0
      · rw [cl_lo z0 w, cl_lo z1 w, nc (S := S) r b 0 dn (by omega) (by omega) (fun _ => by omega) (fun _ => by omega), nc (S := S - 1) r b 0 dn (by omega) (by omega) (fun _ => by omega) (fun _ => by omega)]
      · rw [cl_in (by omega) (by omega), cl_in (by omega) (by omega), nc (S := S) r b (0 + a + b) dn (by omega) (by omega) (fun _ => by omega) (fun _ => by omega), nc (S := S - 1) r b (0 + a + b) dn (by omega) (by omega) (fun _ => by omega) (fun _ => by omega)]
    · rw [cl_lo (S := S) (x := 0 + a) z0 (by omega), cl_lo (S := S - 1) (x := 0 + a) z1 (by omega), cl_in (S := S) (x := S + a) (by omega) (by omega), cl_in (S := S - 1) (x := S - 1 + a) (by omega) (by omega), cl_in (S := S) (x := 0 + b) (by omega) (by omega), cl_in (S := S - 1) (x := 0 + b) (by omega) (by omega)]
      have k2 := nc (S := S) r b (0 + b) dn (by omega) (by omega) (fun _ => by omega) (fun _ => by omega)
      have k3 := nc (S := S - 1) r b (0 + b) dn (by omega) (by omega) (fun _ => by omega) (fun _ => by omega)
      rw [k2, k3]
      refine ⟨rfl, ?_⟩
      by_cases w : S ≤ S + a + b
      · rw [cl_hi z0 w, cl_hi z1 (by omega), nc (S := S) r b S dn (by omega) (by omega) (fun _ => by omega) (fun _ => by omega), nc (S := S - 1) r b (S - 1) dn (by omega) (by omega) (fun _ => by omega) (fun _ => by omega)]
        omega
      · rw [cl_in (by omega) (by omega), cl_in (by omega) (by omega), nc (S := S) r b (S + a + b) dn (by omega) (by omega) (fun _ => by omega) (fun _ => by omega), nc (S := S - 1) r b (S - 1 + a + b) dn (by omega) (by omega) (fun _ => by omega) (fun _ => by omega)]
        omega
theorem stepL {f : List Int} (hf : Form f) {S : Int} (h : 1 ≤ S) : led S f 0 = led (S - 1) f 0 + if dir f S = true then 1 else 0 := by
  by_cases c : S ≤ gr f
  · obtain ⟨q, k1, k2⟩ := wall hf h c
    rw [k1 0 (by omega) (by omega), k2 0 (by omega) (by omega)]
    split <;> omega
  · rw [(beyond hf (show gr f < S by omega)).1, dir_out hf (by omega), if_neg (by simp)]
    omega
theorem flat {f : List Int} {S : Int} (h0 : 0 ≤ S) (h : S ≤ gr f) {x : Int} (x0 : 0 ≤ x) (x1 : x ≤ S) : led S f x = led S f 0 := by
  by_cases z : S = 0
  · have : x = 0 := by omega
    rw [this]
  · exact const (by omega) h x0 x1
theorem led0 (f : List Int) : led 0 f 0 = 0 := by
  have := led_rng (S := 0) (Int.le_refl _) f (x := 0) (Int.le_refl _) (Int.le_refl _)
  omega
/-! ### in one room: a clamp -/
theorem clamp {S : Int} (hS : 0 ≤ S) : ∀ (r : List Int) (x : Int), 0 ≤ x → x ≤ S → 0 ≤ led S r.reverse 0 ∧ led S r.reverse 0 ≤ led S r.reverse S ∧ led S r.reverse S ≤ S ∧
    ((x + r.reverse.sum ≤ led S r.reverse 0 ∧ led S r.reverse x = led S r.reverse 0) ∨ (led S r.reverse 0 ≤ x + r.reverse.sum ∧ x + r.reverse.sum ≤ led S r.reverse S ∧ led S r.reverse x = x + r.reverse.sum) ∨ (led S r.reverse S ≤ x + r.reverse.sum ∧ led S r.reverse x = led S r.reverse S))
  | [], x, x0, x1 => by
    show (0 : Int) ≤ 0 ∧ (0 : Int) ≤ S ∧ S ≤ S ∧ ((x + 0 ≤ 0 ∧ x = 0) ∨ (0 ≤ x + 0 ∧ x + 0 ≤ S ∧ x = x + 0) ∨ (S ≤ x + 0 ∧ x = S))
    omega
  | t :: r, x, x0, x1 => by
    obtain ⟨i1, i2, i3, i4⟩ := clamp hS r x x0 x1
    rw [List.reverse_cons]
    have e : ∀ y, led S (r.reverse ++ [t]) y = cl S (led S r.reverse y + t) := fun y => by
      rw [led_app]
      rfl
    have es : (r.reverse ++ [t]).sum = r.reverse.sum + t := by simp
    rw [e, e, e, es]
    generalize led S r.reverse 0 = l at *
    generalize led S r.reverse S = h at *
    generalize led S r.reverse x = v at *
    generalize r.reverse.sum = σ at *
    have k : ∀ y, (y ≤ 0 ∧ cl S y = 0) ∨ (0 ≤ y ∧ y ≤ S ∧ cl S y = y) ∨ (S ≤ y ∧ cl S y = S) := fun y => by
      by_cases a : y ≤ 0
      · exact .inl ⟨a, cl_lo hS a⟩
      · by_cases b : y ≤ S
        · exact .inr (.inl ⟨by omega, b, cl_in (by omega) b⟩)
        · exact .inr (.inr ⟨by omega, cl_hi hS (by omega)⟩)
    have k1 := k (l + t)
    have k2 := k (h + t)
    have k3 := k (v + t)
    omega
theorem clampF {S : Int} (hS : 0 ≤ S) (f : List Int) {x : Int} (x0 : 0 ≤ x) (x1 : x ≤ S) : 0 ≤ led S f 0 ∧ led S f 0 ≤ led S f S ∧ led S f S ≤ S ∧
    ((x + f.sum ≤ led S f 0 ∧ led S f x = led S f 0) ∨ (led S f 0 ≤ x + f.sum ∧ x + f.sum ≤ led S f S ∧ led S f x = x + f.sum) ∨ (led S f S ≤ x + f.sum ∧ led S f x = led S f S)) := by
  have := clamp hS f.reverse x x0 x1
  rw [List.reverse_reverse] at this
  exact this
end K38
set_option Elab.async false
set_option maxRecDepth 100000
set_option maxHeartbeats 4000000
set_option linter.all false
/-! K38: the first room and scroll at which two lists part. -/
namespace K38
/-! ### cells -/
abbrev Cell := Int × Int × Bool
def cellsR : List Int → Int → List Cell
  | [], _ => []
  | t :: r, g => if ab t > g then (g + 1, ab t, decide (t > 0)) :: cellsR r (ab t) else cellsR r g
def lastR : Int → List Cell → Int
  | d, [] => d
  | _, c :: cs => lastR c.2.1 cs
def downAt (cs : List Cell) (p : Int) : Bool := decide ((cs.filter fun c => decide (c.1 ≤ p ∧ p ≤ c.2.1)).map (fun c => c.2.2) = [true])
theorem cells_out : ∀ (r : List Int) (g p : Int), p ≤ g → (cellsR r g).filter (fun c => decide (c.1 ≤ p ∧ p ≤ c.2.1)) = []
  | [], _, _, _ => rfl
  | t :: r, g, p, h => by
    show List.filter _ (if ab t > g then (g + 1, ab t, decide (t > 0)) :: cellsR r (ab t) else cellsR r g) = []
    split
    · rw [List.filter_cons, if_neg (by simp; omega)]
      exact cells_out r (ab t) p (by omega)
    · exact cells_out r g p h
theorem cells_dir : ∀ (r : List Int) (g p : Int), g < p → (((cellsR r g).filter fun c => decide (c.1 ≤ p ∧ p ≤ c.2.1)).map (fun c => c.2.2) = [true] ↔ dirR r p = true)
  | [], g, p, _ => by
    show ([] : List Bool) = [true] ↔ false = true
    simp
  | t :: r, g, p, h => by
    show List.map _ (List.filter _ (if ab t > g then (g + 1, ab t, decide (t > 0)) :: cellsR r (ab t) else cellsR r g)) = [true] ↔ (if p ≤ ab t then decide (t > 0) else dirR r p) = true
    by_cases c : ab t > g
    · rw [if_pos c, List.filter_cons]
      by_cases d : p ≤ ab t
      · rw [if_pos (by simp; omega), if_pos d, cells_out r (ab t) p d, List.map_cons, List.map_nil]
        simp
      · rw [if_neg (by simp; omega), if_neg d]
        exact cells_dir r (ab t) p (by omega)
    · rw [if_neg c, if_neg (show ¬ p ≤ ab t by omega)]
      exact cells_dir r g p h
theorem down_dir (f : List Int) {p : Int} (h : 1 ≤ p) : downAt (cellsR f.reverse 0) p = dir f p := by
  unfold downAt dir
  have := cells_dir f.reverse 0 p (by omega)
  cases e : dirR f.reverse p with
  | true => exact decide_eq_true (this.mpr e)
  | false =>
    refine decide_eq_false fun z => ?_
    rw [this.mp z] at e
    cases e
theorem lastR_is : ∀ (r : List Int) (g : Int), g ≤ lastR g (cellsR r g) ∧ (∀ t ∈ r, ab t ≤ lastR g (cellsR r g)) ∧ (lastR g (cellsR r g) = g ∨ ∃ t ∈ r, ab t = lastR g (cellsR r g))
  | [], g => ⟨Int.le_refl _, (fun t h => by cases h), .inl rfl⟩
  | t :: r, g => by
    show g ≤ lastR g (if ab t > g then (g + 1, ab t, decide (t > 0)) :: cellsR r (ab t) else cellsR r g) ∧ (∀ u ∈ t :: r, ab u ≤ lastR g (if ab t > g then (g + 1, ab t, decide (t > 0)) :: cellsR r (ab t) else cellsR r g)) ∧ (lastR g (if ab t > g then (g + 1, ab t, decide (t > 0)) :: cellsR r (ab t) else cellsR r g) = g ∨ ∃ u ∈ t :: r, ab u = lastR g (if ab t > g then (g + 1, ab t, decide (t > 0)) :: cellsR r (ab t) else cellsR r g))
    by_cases c : ab t > g
    · rw [if_pos c]
      obtain ⟨h1, h2, h3⟩ := lastR_is r (ab t)
      show g ≤ lastR (ab t) (cellsR r (ab t)) ∧ (∀ u ∈ t :: r, ab u ≤ lastR (ab t) (cellsR r (ab t))) ∧ (lastR (ab t) (cellsR r (ab t)) = g ∨ ∃ u ∈ t :: r, ab u = lastR (ab t) (cellsR r (ab t)))
      refine ⟨by omega, fun u hu => ?_, .inr ?_⟩
      · rcases List.mem_cons.mp hu with z | z
        · rw [z]
          exact h1
        · exact h2 u z
      · rcases h3 with z | ⟨u, hu, e⟩
        · exact ⟨t, List.mem_cons_self, z.symm⟩
        · exact ⟨u, List.mem_cons_of_mem _ hu, e⟩
    · rw [if_neg c]
      obtain ⟨h1, h2, h3⟩ := lastR_is r g
      refine ⟨h1, fun u hu => ?_, ?_⟩
      · rcases List.mem_cons.mp hu with z | z
        · rw [z]
          omega
        · exact h2 u z
      · rcases h3 with z | ⟨u, hu, e⟩
        · exact .inl z
        · exact .inr ⟨u, List.mem_cons_of_mem _ hu, e⟩
theorem gr_mem {f : List Int} : gr f = 0 ∨ ∃ t ∈ f, ab t = gr f := by
  match f with
  | [] => exact .inl rfl
  | [a] => exact .inr ⟨a, List.mem_cons_self, rfl⟩
  | a :: b :: r =>
    refine .inr ?_
    show ∃ t ∈ a :: b :: r, ab t = if ab a < ab b then ab b else ab a
    split
    · exact ⟨b, List.mem_cons_of_mem _ List.mem_cons_self, rfl⟩
    · exact ⟨a, List.mem_cons_self, rfl⟩
theorem last_gr {f : List Int} (hf : Form f) : lastR 0 (cellsR f.reverse 0) = gr f := by
  obtain ⟨h1, h2, h3⟩ := lastR_is f.reverse 0
  have g0 := gr_nn f
  apply Int.le_antisymm
  · rcases h3 with z | ⟨t, ht, e⟩
    · omega
    · have := le_gr hf t (List.mem_reverse.mp ht)
      omega
  · rcases gr_mem (f := f) with z | ⟨t, ht, e⟩
    · omega
    · have := h2 t (List.mem_reverse.mpr ht)
      omega
/-- a place that begins no cell goes as the one ahead of it -/
theorem cells_first : ∀ (r : List Int) (g p : Int), g < p → (∃ t ∈ r, p ≤ ab t) → (∀ c ∈ cellsR r g, c.1 ≠ p) → g + 1 < p ∧ dirR r p = dirR r (p - 1)
  | [], _, _, _, ⟨t, h, _⟩, _ => by cases h
  | t :: r, g, p, h, ht, hc => by
    have hc : ∀ c ∈ (if ab t > g then (g + 1, ab t, decide (t > 0)) :: cellsR r (ab t) else cellsR r g), c.1 ≠ p := hc
    show g + 1 < p ∧ (if p ≤ ab t then decide (t > 0) else dirR r p) = (if p - 1 ≤ ab t then decide (t > 0) else dirR r (p - 1))
    have ht' : ¬ p ≤ ab t → ∃ t ∈ r, p ≤ ab t := fun n => by
      obtain ⟨u, hu, hp⟩ := ht
      rcases List.mem_cons.mp hu with z | z
      · rw [z] at hp
        exact absurd hp n
      · exact ⟨u, z, hp⟩
    by_cases c : ab t > g
    · rw [if_pos c] at hc
      have n1 : g + 1 ≠ p := hc _ List.mem_cons_self
      refine ⟨by omega, ?_⟩
      by_cases d : p ≤ ab t
      · rw [if_pos d, if_pos (by omega)]
      · obtain ⟨i1, i2⟩ := cells_first r (ab t) p (by omega) (ht' d) fun c hc' => hc c (List.mem_cons_of_mem _ hc')
        rw [if_neg d, if_neg (by omega)]
        exact i2
    · rw [if_neg c] at hc
      obtain ⟨i1, i2⟩ := cells_first r g p h (ht' (by omega)) hc
      refine ⟨i1, ?_⟩
      rw [if_neg (by omega), if_neg (by omega)]
      exact i2
/-! ### the first room -/
/-- s is the first room in which forms part -/
def IsS (f g : List Int) (s : Int) : Prop := 1 ≤ s ∧ s ≤ (if gr f < gr g then gr f else gr g) + 1 ∧ (∀ p, 1 ≤ p → p < s → dir f p = dir g p) ∧ (s ≤ (if gr f < gr g then gr f else gr g) → dir f s ≠ dir g s)
theorem IsS.uniq {f g : List Int} {s s' : Int} (h : IsS f g s) (h' : IsS f g s') : s = s' := by
  obtain ⟨a1, a2, a3, a4⟩ := h
  obtain ⟨b1, b2, b3, b4⟩ := h'
  rcases Int.lt_trichotomy s s' with z | z | z
  · exact absurd (b3 s a1 z) (a4 (by omega))
  · exact z
  · exact absurd (a3 s' b1 z) (b4 (by omega))
def FirstDiff (ts us : List Int) (s x : Int) : Prop := 0 ≤ x ∧ x ≤ s ∧ (∀ S y, 0 ≤ y → y ≤ S → S < s → led S ts y = led S us y) ∧ (∀ y, 0 ≤ y → y < x → led s ts y = led s us y) ∧ led s ts x ≠ led s us x
theorem FirstDiff.uniq {ts us : List Int} {s x s' x' : Int} (h : FirstDiff ts us s x) (h' : FirstDiff ts us s' x') : s = s' ∧ x = x' := by
  obtain ⟨a1, a2, a3, a4, a5⟩ := h
  obtain ⟨b1, b2, b3, b4, b5⟩ := h'
  have e : s = s' := by
    rcases Int.lt_trichotomy s s' with z | z | z
    · exact absurd (b3 s x a1 a2 z) a5
    · exact z
    · exact absurd (a3 s' x' b1 b2 z) b5
  subst e
  refine ⟨rfl, ?_⟩
  rcases Int.lt_trichotomy x x' with z | z | z
  · exact absurd (b4 x a1 z) a5
  · exact z
  · exact absurd (a4 x' b1 z) b5
theorem low_same {f g : List Int} (hf : Form f) (hg : Form g) : ∀ n : Nat, (∀ p, 1 ≤ p → p ≤ (n : Int) → dir f p = dir g p) → led (n : Int) f 0 = led (n : Int) g 0
  | 0, _ => by
    show led 0 f 0 = led 0 g 0
    rw [led0, led0]
  | n + 1, h => by
    have ih := low_same hf hg n fun p h1 h2 => h p h1 (by omega)
    have e : (((n + 1 : Nat) : Int)) - 1 = (n : Int) := by omega
    rw [stepL hf (S := ((n + 1 : Nat) : Int)) (by omega), stepL hg (S := ((n + 1 : Nat) : Int)) (by omega), e, ih, h ((n + 1 : Nat) : Int) (by omega) (Int.le_refl _)]
theorem before {f g : List Int} (hf : Form f) (hg : Form g) {s : Int} (h : IsS f g s) {S x : Int} (x0 : 0 ≤ x) (x1 : x ≤ S) (hs : S < s) : led S f x = led S g x := by
  obtain ⟨a1, a2, a3, _⟩ := h
  have m : S ≤ gr f ∧ S ≤ gr g := by split at a2 <;> omega
  rw [flat (by omega) m.1 x0 x1, flat (by omega) m.2 x0 x1]
  have := low_same hf hg S.toNat fun p h1 h2 => a3 p h1 (by omega)
  rw [show ((S.toNat : Nat) : Int) = S by omega] at this
  exact this
theorem at_s {f g : List Int} (hf : Form f) (hg : Form g) (hn : f ≠ g) {s : Int} (h : IsS f g s) : ∃ x, 0 ≤ x ∧ x ≤ s ∧ led s f x ≠ led s g x := by
  obtain ⟨a1, a2, a3, a4⟩ := id h
  by_cases c : s ≤ (if gr f < gr g then gr f else gr g)
  · refine ⟨0, Int.le_refl _, by omega, ?_⟩
    have b := before hf hg h (S := s - 1) (x := 0) (Int.le_refl _) (by omega) (by omega)
    rw [stepL hf a1, stepL hg a1, b]
    have := a4 c
    cases e1 : dir f s <;> cases e2 : dir g s
    · rw [e1, e2] at this
      exact absurd rfl this
    · simp
      omega
    · simp
      omega
    · rw [e1, e2] at this
      exact absurd rfl this
  · obtain ⟨S, x, x0, x1, hS, hd⟩ := apart hf hg hn
    by_cases z : S < s
    · exact absurd (before hf hg h x0 x1 z) hd
    · have : S = s := by omega
      subst this
      exact ⟨x, x0, x1, hd⟩
/-! ### the first scroll in a room -/
abbrev Eff := Int × Int × Int
def eff (S : Int) (ts : List Int) : Eff := (if led S ts 0 < led S ts S then ts.sum else 0, led S ts 0, led S ts S)
def riseOf (S : Int) (e : Eff) : Int := if e.2.1 < e.2.2 then e.2.1 - e.1 else S
def mnI (i j : Int) : Int := if j < i then j else i
def scrA (S : Int) (e f : Eff) : Int := if e.2.1 ≠ f.2.1 then 0 else if riseOf S e ≠ riseOf S f then mnI (riseOf S e) (riseOf S f) + 1 else mnI e.2.2 f.2.2 - e.1 + 1
theorem scr_right {S : Int} {f g : List Int} (hS : 0 ≤ S) (h : ∃ x, 0 ≤ x ∧ x ≤ S ∧ led S f x ≠ led S g x) : 0 ≤ scrA S (eff S f) (eff S g) ∧ scrA S (eff S f) (eff S g) ≤ S ∧ (∀ y, 0 ≤ y → y < scrA S (eff S f) (eff S g) → led S f y = led S g y) ∧ led S f (scrA S (eff S f) (eff S g)) ≠ led S g (scrA S (eff S f) (eff S g)) := by
  have kf := fun x (x0 : 0 ≤ x) (x1 : x ≤ S) => clampF hS f x0 x1
  have kg := fun x (x0 : 0 ≤ x) (x1 : x ≤ S) => clampF hS g x0 x1
  have f0 := kf 0 (Int.le_refl _) hS
  have g0 := kg 0 (Int.le_refl _) hS
  have fS := kf S hS (Int.le_refl _)
  have gS := kg S hS (Int.le_refl _)
  have pf : led S f 0 < led S f S → f.sum ≤ led S f 0 ∧ led S f S ≤ S + f.sum := by
    clear g0 gS
    omega
  have pg : led S g 0 < led S g S → g.sum ≤ led S g 0 ∧ led S g S ≤ S + g.sum := by
    clear f0 fS
    omega
  obtain ⟨f1, f2, f3, _⟩ := f0
  obtain ⟨g1, g2, g3, _⟩ := g0
  clear fS gS
  have kf := fun x (x0 : 0 ≤ x) (x1 : x ≤ S) => (kf x x0 x1).2.2.2
  have kg := fun x (x0 : 0 ≤ x) (x1 : x ≤ S) => (kg x x0 x1).2.2.2
  have both : ¬ led S f 0 < led S f S → ¬ led S g 0 < led S g S → led S f 0 = led S g 0 → False := by
    intro d1 d2 c
    obtain ⟨x, x0, x1, hx⟩ := h
    have fx := kf x x0 x1
    have gx := kg x x0 x1
    omega
  have h' := h
  clear h
  unfold scrA riseOf eff mnI
  dsimp only
  generalize led S f 0 = lf at *
  generalize led S g 0 = lg at *
  generalize led S f S = hf at *
  generalize led S g S = hg at *
  generalize f.sum = σ at *
  generalize g.sum = τ at *
  by_cases c : lf ≠ lg
  · rw [if_pos c]
    refine ⟨Int.le_refl _, hS, fun y h0 h1 => by omega, ?_⟩
    have r1 := kf 0 (Int.le_refl _) hS
    have r2 := kg 0 (Int.le_refl _) hS
    omega
  rw [if_neg c]
  have c' : lf = lg := Decidable.not_not.mp c
  subst c'
  have fin : ∀ x0 : Int, 0 ≤ x0 → x0 ≤ S → (∀ y, 0 ≤ y → y < x0 → led S f y = led S g y) → led S f x0 ≠ led S g x0 → 0 ≤ x0 ∧ x0 ≤ S ∧ (∀ y, 0 ≤ y → y < x0 → led S f y = led S g y) ∧ led S f x0 ≠ led S g x0 := fun x0 a b c d => ⟨a, b, c, d⟩
  by_cases d1 : lf < hf
  · obtain ⟨p1, p2⟩ := pf d1
    by_cases d2 : lf < hg
    · obtain ⟨q1, q2⟩ := pg d2
      clear pf pg both
      simp only [if_pos d1, if_pos d2]
      by_cases e : lf - σ ≠ lf - τ
      · rw [if_pos e]
        by_cases l : lf - τ < lf - σ
        · rw [if_pos l]
          refine fin _ (by omega) (by omega) (fun y y0 y1 => ?_) ?_
          · have r3 := kf y y0 (by omega)
            have r4 := kg y y0 (by omega)
            omega
          · have r1 := kf (lf - τ + 1) (by omega) (by omega)
            have r2 := kg (lf - τ + 1) (by omega) (by omega)
            omega
        · rw [if_neg l]
          refine fin _ (by omega) (by omega) (fun y y0 y1 => ?_) ?_
          · have r3 := kf y y0 (by omega)
            have r4 := kg y y0 (by omega)
            omega
          · have r1 := kf (lf - σ + 1) (by omega) (by omega)
            have r2 := kg (lf - σ + 1) (by omega) (by omega)
            omega
      · rw [if_neg e]
        have e' : σ = τ := by omega
        subst e'
        have hne : hf ≠ hg ∨ hf = hg := by omega
        rcases hne with hne | hne
        · by_cases l : hg < hf
          · rw [if_pos l]
            refine fin _ (by omega) (by omega) (fun y y0 y1 => ?_) ?_
            · have r3 := kf y y0 (by omega)
              have r4 := kg y y0 (by omega)
              omega
            · have r1 := kf (hg - σ + 1) (by omega) (by omega)
              have r2 := kg (hg - σ + 1) (by omega) (by omega)
              omega
          · rw [if_neg l]
            refine fin _ (by omega) (by omega) (fun y y0 y1 => ?_) ?_
            · have r3 := kf y y0 (by omega)
              have r4 := kg y y0 (by omega)
              omega
            · have r1 := kf (hf - σ + 1) (by omega) (by omega)
              have r2 := kg (hf - σ + 1) (by omega) (by omega)
              omega
        · obtain ⟨x, x0, x1, hx⟩ := h'
          have r1 := kf x x0 x1
          have r2 := kg x x0 x1
          omega
    · have eg : hg = lf := by omega
      simp only [if_pos d1, if_neg d2]
      rw [if_pos (by omega), if_neg (by omega)]
      refine fin _ (by omega) (by omega) (fun y y0 y1 => ?_) ?_
      · have r3 := kf y y0 (by omega)
        have r4 := kg y y0 (by omega)
        omega
      · have r1 := kf (lf - σ + 1) (by omega) (by omega)
        have r2 := kg (lf - σ + 1) (by omega) (by omega)
        omega
  · by_cases d2 : lf < hg
    · obtain ⟨q1, q2⟩ := pg d2
      simp only [if_neg d1, if_pos d2]
      rw [if_pos (by omega), if_pos (by omega)]
      refine fin _ (by omega) (by omega) (fun y y0 y1 => ?_) ?_
      · have r3 := kf y y0 (by omega)
        have r4 := kg y y0 (by omega)
        omega
      · have r1 := kf (lf - τ + 1) (by omega) (by omega)
        have r2 := kg (lf - τ + 1) (by omega) (by omega)
        omega
    · exact absurd rfl (fun z => both d1 d2 z)
theorem first_diff {ts us : List Int} (hn : form ts ≠ form us) {s : Int} (h : IsS (form ts) (form us) s) : FirstDiff ts us s (scrA s (eff s (form ts)) (eff s (form us))) := by
  have hf := form_form' ts
  have hg := form_form' us
  obtain ⟨r1, r2, r3, r4⟩ := scr_right (by have := h.1; omega) (at_s hf hg hn h)
  have hs := h.1
  refine ⟨r1, r2, fun S y y0 y1 hS => ?_, fun y y0 y1 => ?_, ?_⟩
  · rw [← form_led (by omega) y0 y1 ts, ← form_led (by omega) y0 y1 us]
    exact before hf hg h y0 y1 hS
  · rw [← form_led (by omega) y0 (by omega) ts, ← form_led (by omega) y0 (by omega) us]
    exact r3 y y0 y1
  · rw [← form_led (by omega) r1 r2 ts, ← form_led (by omega) r1 r2 us]
    exact r4
/-! ### all turns so many times -/
theorem gr_mul {w : Int} (hw : 0 < w) : ∀ f : List Int, gr (f.map (w * ·)) = w * gr f
  | [] => (Int.mul_zero w).symm
  | [a] => ab_mul hw
  | a :: b :: r => by
    show (if ab (w * a) < ab (w * b) then ab (w * b) else ab (w * a)) = w * (if ab a < ab b then ab b else ab a)
    rw [ab_mul hw, ab_mul hw]
    have : w * ab a < w * ab b ↔ ab a < ab b := Int.mul_lt_mul_left hw
    by_cases c : ab a < ab b
    · rw [if_pos c, if_pos (this.mpr c)]
    · rw [if_neg c, if_neg (fun z => c (this.mp z))]
theorem dirR_mul {w : Int} (hw : 0 < w) {p q : Int} (h1 : w * (q - 1) < p) (h2 : p ≤ w * q) : ∀ r : List Int, dirR (r.map (w * ·)) p = dirR r q
  | [] => rfl
  | t :: r => by
    show (if p ≤ ab (w * t) then decide (w * t > 0) else dirR (r.map (w * ·)) p) = if q ≤ ab t then decide (t > 0) else dirR r q
    rw [ab_mul hw, dirR_mul hw h1 h2 r]
    have c : p ≤ w * ab t ↔ q ≤ ab t := by
      constructor
      · intro z
        by_cases n : q ≤ ab t
        · exact n
        · have : w * ab t ≤ w * (q - 1) := Int.mul_le_mul_of_nonneg_left (by omega) (by omega)
          omega
      · intro z
        have : w * q ≤ w * ab t := Int.mul_le_mul_of_nonneg_left z (by omega)
        omega
    have d : decide (w * t > 0) = decide (t > 0) := decide_eq_decide.mpr (mul_pos_iff hw)
    rw [d]
    by_cases z : q ≤ ab t
    · rw [if_pos z, if_pos (c.mpr z)]
    · rw [if_neg z, if_neg (fun y => z (c.mp y))]
theorem dir_mul {w : Int} (hw : 0 < w) {p q : Int} (h1 : w * (q - 1) < p) (h2 : p ≤ w * q) (f : List Int) : dir (f.map (w * ·)) p = dir f q := by
  unfold dir
  rw [← List.map_reverse]
  exact dirR_mul hw h1 h2 _
theorem IsS.mul {f g : List Int} {s w : Int} (hw : 0 < w) (h : IsS f g s) : IsS (f.map (w * ·)) (g.map (w * ·)) (w * (s - 1) + 1) := by
  obtain ⟨a1, a2, a3, a4⟩ := h
  have s0 : 0 ≤ w * (s - 1) := Int.mul_nonneg (by omega) (by omega)
  have em : (if gr (f.map (w * ·)) < gr (g.map (w * ·)) then gr (f.map (w * ·)) else gr (g.map (w * ·))) = w * (if gr f < gr g then gr f else gr g) := by
    rw [gr_mul hw, gr_mul hw]
    have : w * gr f < w * gr g ↔ gr f < gr g := Int.mul_lt_mul_left hw
    by_cases c : gr f < gr g
    · rw [if_pos c, if_pos (this.mpr c)]
    · rw [if_neg c, if_neg (fun z => c (this.mp z))]
  unfold IsS
  rw [em]
  generalize (if gr f < gr g then gr f else gr g) = m at a2 a4 ⊢
  have up : w * (s - 1) ≤ w * m := Int.mul_le_mul_of_nonneg_left (by omega) (by omega)
  refine ⟨by omega, by omega, fun p p1 p2 => ?_, fun hs => ?_⟩
  · -- the block of p
    have hq : ∃ q, 1 ≤ q ∧ q < s ∧ w * (q - 1) < p ∧ p ≤ w * q := by
      refine ⟨(p - 1) / w + 1, ?_, ?_, ?_, ?_⟩
      · have := Int.ediv_nonneg (a := p - 1) (b := w) (by omega) (by omega)
        omega
      · have : (p - 1) / w < s - 1 := (Int.ediv_lt_iff_lt_mul hw).mpr (by rw [Int.mul_comm]; omega)
        omega
      · have := Int.mul_ediv_self_le (x := p - 1) (k := w) (by omega)
        rw [Int.add_sub_cancel]
        omega
      · have := Int.lt_mul_ediv_self_add (x := p - 1) (k := w) hw
        rw [Int.mul_add, Int.mul_one]
        omega
    obtain ⟨q, q1, q2, q3, q4⟩ := hq
    rw [dir_mul hw q3 q4, dir_mul hw q3 q4]
    exact a3 q q1 q2
  · have e : w * s = w * (s - 1) + w := by
      have := Int.mul_add w (s - 1) 1
      rw [Int.mul_one] at this
      rw [← this]
      congr 1
      omega
    rw [dir_mul hw (q := s) (by omega) (by omega), dir_mul hw (q := s) (by omega) (by omega)]
    refine a4 ?_
    by_cases z : s ≤ m
    · exact z
    · have : w * m ≤ w * (s - 1) := Int.mul_le_mul_of_nonneg_left (by omega) (by omega)
      omega
end K38
set_option Elab.async false
set_option maxRecDepth 100000
set_option maxHeartbeats 4000000
set_option linter.all false
/-! K38: rooms in which turns lead to a scroll; swings. -/
namespace K38
def lw (ts : List Int) (S : Int) : Int := led S ts 0
theorem lw_form (ts : List Int) {S : Int} (h : 0 ≤ S) : lw (form ts) S = lw ts S := form_led h (Int.le_refl _) h ts
theorem lw_step (ts : List Int) {S : Int} (h : 1 ≤ S) : lw ts S = lw ts (S - 1) + if dir (form ts) S = true then 1 else 0 := by
  rw [← lw_form ts (show 0 ≤ S by omega), ← lw_form ts (show 0 ≤ S - 1 by omega)]
  exact stepL (form_form' ts) h
theorem lw_zero (ts : List Int) : lw ts 0 = 0 := led0 ts
theorem lw_steps (ts : List Int) {S : Int} (h : 1 ≤ S) : lw ts S = lw ts (S - 1) ∨ lw ts S = lw ts (S - 1) + 1 := by
  rw [lw_step ts h]
  split <;> omega
theorem lw_mono (ts : List Int) {S : Int} (h : 0 ≤ S) : ∀ n : Nat, lw ts S ≤ lw ts (S + n)
  | 0 => by
    rw [show S + ((0 : Nat) : Int) = S by omega]
    exact Int.le_refl _
  | n + 1 => by
    have ih := lw_mono ts h n
    have := lw_steps ts (S := S + ((n + 1 : Nat) : Int)) (by omega)
    rw [show S + ((n + 1 : Nat) : Int) - 1 = S + (n : Int) by omega] at this
    omega
theorem lw_le (ts : List Int) {S T : Int} (h : 0 ≤ S) (h2 : S ≤ T) : lw ts S ≤ lw ts T := by
  have := lw_mono ts h (T - S).toNat
  rw [show S + ((T - S).toNat : Int) = T by omega] at this
  exact this
/-- the greatest turn of the form -/
def endOf (ts : List Int) : Int := gr (form ts)
theorem lw_end (ts : List Int) : ∀ n : Nat, lw ts (endOf ts + n) = lw ts (endOf ts)
  | 0 => by
    rw [show endOf ts + ((0 : Nat) : Int) = endOf ts by omega]
  | n + 1 => by
    have ih := lw_end ts n
    have g0 := gr_nn (form ts)
    have hd : dir (form ts) (endOf ts + ((n + 1 : Nat) : Int)) = false := dir_out (form_form' ts) (by unfold endOf; omega)
    rw [lw_step ts (S := endOf ts + ((n + 1 : Nat) : Int)) (by unfold endOf; omega), hd, if_neg (by simp), show endOf ts + ((n + 1 : Nat) : Int) - 1 = endOf ts + (n : Int) by omega]
    omega
theorem lw_far (ts : List Int) {S : Int} (h : endOf ts ≤ S) : lw ts S = lw ts (endOf ts) := by
  have := lw_end ts (S - endOf ts).toNat
  rw [show endOf ts + ((S - endOf ts).toNat : Int) = S by omega] at this
  exact this
def IsLeast (ts : List Int) (k m : Int) : Prop := 0 ≤ m ∧ k ≤ lw ts m ∧ ∀ S, 0 ≤ S → S < m → lw ts S < k
theorem IsLeast.uniq {ts : List Int} {k m m' : Int} (h : IsLeast ts k m) (h' : IsLeast ts k m') : m = m' := by
  obtain ⟨a1, a2, a3⟩ := h
  obtain ⟨b1, b2, b3⟩ := h'
  rcases Int.lt_trichotomy m m' with z | z | z
  · have := b3 m a1 z
    omega
  · exact z
  · have := a3 m' b1 z
    omega
theorem IsLeast.le {ts : List Int} {k m S : Int} (h : IsLeast ts k m) (h0 : 0 ≤ S) (hk : k ≤ lw ts S) : m ≤ S := by
  by_cases z : m ≤ S
  · exact z
  · have := h.2.2 S h0 (by omega)
    omega
theorem IsLeast.eq {ts : List Int} {k m : Int} (h : IsLeast ts k m) (hk : 0 ≤ k) : lw ts m = k := by
  obtain ⟨a1, a2, a3⟩ := h
  by_cases z : m = 0
  · subst z
    rw [lw_zero] at a2 ⊢
    omega
  · have := a3 (m - 1) (by omega) (by omega)
    have := lw_steps ts (S := m) (by omega)
    omega
/-- what rooms_for tells -/
def RoomsIs (ts : List Int) (k : Int) (o : Option (Int × Option Int)) : Prop :=
  (o = none ∧ lw ts (endOf ts) < k) ∨ (∃ m, o = some (m, none) ∧ lw ts (endOf ts) = k ∧ IsLeast ts k m ∧ m ≤ endOf ts) ∨ ∃ m m', o = some (m, some (m' - 1)) ∧ k < lw ts (endOf ts) ∧ IsLeast ts k m ∧ IsLeast ts (k + 1) m' ∧ m' ≤ endOf ts
theorem RoomsIs.uniq {ts : List Int} {k : Int} {o o' : Option (Int × Option Int)} (h : RoomsIs ts k o) (h' : RoomsIs ts k o') : o = o' := by
  rcases h with ⟨rfl, h⟩ | ⟨m, rfl, h, l, _⟩ | ⟨m, n, rfl, h, l, r, _⟩
  · rcases h' with ⟨rfl, h'⟩ | ⟨m', rfl, h', _⟩ | ⟨m', n', rfl, h', _⟩
    · rfl
    · omega
    · omega
  · rcases h' with ⟨rfl, h'⟩ | ⟨m', rfl, h', l', _⟩ | ⟨m', n', rfl, h', _⟩
    · omega
    · rw [l.uniq l']
    · omega
  · rcases h' with ⟨rfl, h'⟩ | ⟨m', rfl, h', l', _⟩ | ⟨m', n', rfl, h', l', r', _⟩
    · omega
    · omega
    · rw [l.uniq l', r.uniq r']
/-! ### all turns so many times -/
theorem led_mul {w : Int} (hw : 0 < w) {S : Int} (hS : 0 ≤ S) : ∀ (ts : List Int) (x : Int), led (w * S) (ts.map (w * ·)) (w * x) = w * led S ts x
  | [], x => rfl
  | t :: ts, x => by
    show led (w * S) (ts.map (w * ·)) (cl (w * S) (w * x + w * t)) = w * led S ts (cl S (x + t))
    have e : cl (w * S) (w * x + w * t) = w * cl S (x + t) := by
      rw [← Int.mul_add]
      generalize x + t = y
      rw [cl_eq, cl_eq]
      have c1 : w * y < w * S ↔ y < S := Int.mul_lt_mul_left hw
      have c2 : w * y > 0 ↔ y > 0 := mul_pos_iff hw
      have c3 : w * S > 0 ↔ S > 0 := mul_pos_iff hw
      by_cases a : y < S
      · rw [if_pos a, if_pos (c1.mpr a)]
        by_cases b : y > 0
        · rw [if_pos b, if_pos (c2.mpr b)]
        · rw [if_neg b, if_neg (fun z => b (c2.mp z)), Int.mul_zero]
      · rw [if_neg a, if_neg (fun z => a (c1.mp z))]
        by_cases b : S > 0
        · rw [if_pos b, if_pos (c3.mpr b)]
        · rw [if_neg b, if_neg (fun z => b (c3.mp z)), Int.mul_zero]
    rw [e, led_mul hw hS ts]
theorem lw_mul {w : Int} (hw : 0 < w) {S : Int} (hS : 0 ≤ S) (ts : List Int) : lw (ts.map (w * ·)) (w * S) = w * lw ts S := by
  have := led_mul hw hS ts 0
  rw [Int.mul_zero] at this
  exact this
theorem end_mul {w : Int} (hw : 0 < w) (ts : List Int) : endOf (ts.map (w * ·)) = w * endOf ts := by
  unfold endOf
  rw [form_scale hw, gr_mul hw]
theorem far_mul {w : Int} (hw : 0 < w) (ts : List Int) : lw (ts.map (w * ·)) (endOf (ts.map (w * ·))) = w * lw ts (endOf ts) := by
  rw [end_mul hw, lw_mul hw (show 0 ≤ endOf ts from gr_nn _)]
theorem dirF_mul {w : Int} (hw : 0 < w) {p q : Int} (h1 : w * (q - 1) < p) (h2 : p ≤ w * q) (ts : List Int) : dir (form (ts.map (w * ·))) p = dir (form ts) q := by
  rw [form_scale hw]
  exact dir_mul hw h1 h2 _
theorem least_up {ts : List Int} {k m : Int} (hk : 1 ≤ k) (h : IsLeast ts k m) : 1 ≤ m ∧ lw ts (m - 1) = k - 1 ∧ lw ts m = k ∧ dir (form ts) m = true := by
  have e := h.eq (by omega)
  have m1 : 1 ≤ m := by
    have := h.1
    by_cases z : m = 0
    · rw [z, lw_zero] at e
      omega
    · omega
  have l := h.2.2 (m - 1) (by omega) (by omega)
  have st := lw_step ts m1
  have st2 := lw_steps ts m1
  refine ⟨m1, by omega, e, ?_⟩
  cases d : dir (form ts) m with
  | true => rfl
  | false =>
    rw [d, if_neg (by simp)] at st
    omega
theorem wsub (w m : Int) : w * m = w * (m - 1) + w := by
  have := Int.mul_add w (m - 1) 1
  rw [Int.mul_one, show m - 1 + 1 = m by omega] at this
  exact this
theorem IsLeast.mul {ts : List Int} {k m w : Int} (hw : 0 < w) (hk : 0 ≤ k) (h : IsLeast ts k m) : IsLeast (ts.map (w * ·)) (w * k) (w * m) := by
  by_cases z : k = 0
  · subst z
    have : m = 0 := h.uniq ⟨Int.le_refl _, by rw [lw_zero]; exact Int.le_refl _, fun S a b => by omega⟩
    subst this
    rw [Int.mul_zero]
    exact ⟨Int.le_refl _, by rw [lw_zero]; exact Int.le_refl _, fun S a b => by omega⟩
  · obtain ⟨m1, e1, e2, e3⟩ := least_up (by omega) h
    have ws := wsub w m
    have w0 : 0 ≤ w * (m - 1) := Int.mul_nonneg (by omega) (by omega)
    have eW : lw (ts.map (w * ·)) (w * m) = w * k := by rw [lw_mul hw h.1, e2]
    refine ⟨by omega, by omega, fun S a b => ?_⟩
    have st := lw_step (ts.map (w * ·)) (S := w * m) (by omega)
    rw [dirF_mul hw (q := m) (by omega) (Int.le_refl _), e3, if_pos rfl] at st
    have := lw_le (ts.map (w * ·)) a (show S ≤ w * m - 1 by omega)
    omega
theorem IsLeast.mul1 {ts : List Int} {k m w : Int} (hw : 0 < w) (hk : 0 ≤ k) (h : IsLeast ts (k + 1) m) : IsLeast (ts.map (w * ·)) (w * k + 1) (w * (m - 1) + 1) := by
  obtain ⟨m1, e1, e2, e3⟩ := least_up (by omega) h
  have e1 : lw ts (m - 1) = k := by omega
  have ws := wsub w m
  have w0 : 0 ≤ w * (m - 1) := Int.mul_nonneg (by omega) (by omega)
  have eW : lw (ts.map (w * ·)) (w * (m - 1)) = w * k := by rw [lw_mul hw (by omega), e1]
  have st := lw_step (ts.map (w * ·)) (S := w * (m - 1) + 1) (by omega)
  rw [dirF_mul hw (q := m) (by omega) (by omega), e3, if_pos rfl, Int.add_sub_cancel, eW] at st
  refine ⟨by omega, by omega, fun S a b => ?_⟩
  have := lw_le (ts.map (w * ·)) a (show S ≤ w * (m - 1) by omega)
  omega
def mulO (w : Int) : Option (Int × Option Int) → Option (Int × Option Int)
  | none => none
  | some (m, none) => some (w * m, none)
  | some (m, some n) => some (w * m, some (w * n))
theorem RoomsIs.mul {ts : List Int} {k w : Int} {o : Option (Int × Option Int)} (hw : 0 < w) (hk : 0 ≤ k) (h : RoomsIs ts k o) : RoomsIs (ts.map (w * ·)) (w * k) (mulO w o) := by
  have fm := far_mul hw ts
  have em := end_mul hw ts
  rcases h with ⟨rfl, h⟩ | ⟨m, rfl, h, l, me⟩ | ⟨m, n, rfl, h, l, r, ne⟩
  · refine .inl ⟨rfl, ?_⟩
    rw [fm]
    exact (Int.mul_lt_mul_left hw).mpr h
  · refine .inr (.inl ⟨w * m, rfl, by rw [fm, h], l.mul hw hk, ?_⟩)
    rw [em]
    exact Int.mul_le_mul_of_nonneg_left me (by omega)
  · refine .inr (.inr ⟨w * m, w * (n - 1) + 1, ?_, ?_, l.mul hw hk, r.mul1 hw hk, ?_⟩)
    · show some (w * m, some (w * (n - 1))) = _
      rw [Int.add_sub_cancel]
    · rw [fm]
      exact (Int.mul_lt_mul_left hw).mpr h
    · rw [em]
      have ws := wsub w n
      have : w * n ≤ w * endOf ts := Int.mul_le_mul_of_nonneg_left ne (by omega)
      omega
/-! ### swings -/
abbrev Sw := Int × Int × Int
def mxI (i j : Int) : Int := if j > i then j else i
def swStep (p : Sw) (t : Int) : Sw := (mnI p.1 (p.2.2 + t), mxI p.2.1 (p.2.2 + t), p.2.2 + t)
def swF (p : Sw) (ts : List Int) : Sw := ts.foldl swStep p
def sw (ts : List Int) : Sw := swF (0, 0, 0) ts
theorem mnI_c (i j : Int) : (j < i ∧ mnI i j = j) ∨ (i ≤ j ∧ mnI i j = i) := by
  unfold mnI
  split <;> omega
theorem mxI_c (i j : Int) : (i < j ∧ mxI i j = j) ∨ (j ≤ i ∧ mxI i j = i) := by
  unfold mxI
  split <;> omega
theorem sw_in : ∀ (ts : List Int) (p : Sw), p.1 ≤ p.2.2 → p.2.2 ≤ p.2.1 → (swF p ts).1 ≤ p.1 ∧ p.2.1 ≤ (swF p ts).2.1 ∧ (swF p ts).2.2 = p.2.2 + ts.sum
  | [], p, _, _ => ⟨Int.le_refl _, Int.le_refl _, by show p.2.2 = p.2.2 + 0; omega⟩
  | t :: ts, p, h1, h2 => by
    have c1 := mnI_c p.1 (p.2.2 + t)
    have c2 := mxI_c p.2.1 (p.2.2 + t)
    obtain ⟨i1, i2, i3⟩ := sw_in ts (swStep p t) (by show mnI _ _ ≤ p.2.2 + t; omega) (by show p.2.2 + t ≤ mxI _ _; omega)
    have e : swF p (t :: ts) = swF (swStep p t) ts := rfl
    rw [e, List.sum_cons]
    have e1 : (swStep p t).1 = mnI p.1 (p.2.2 + t) := rfl
    have e2 : (swStep p t).2.1 = mxI p.2.1 (p.2.2 + t) := rfl
    have e3 : (swStep p t).2.2 = p.2.2 + t := rfl
    omega
theorem sw_free {S x : Int} : ∀ (ts : List Int) (p : Sw), p.1 ≤ p.2.2 → p.2.2 ≤ p.2.1 → 0 ≤ x + (swF p ts).1 → x + (swF p ts).2.1 ≤ S → led S ts (x + p.2.2) = x + p.2.2 + ts.sum
  | [], p, _, _, _, _ => by
    show x + p.2.2 = x + p.2.2 + 0
    omega
  | t :: ts, p, h1, h2, a, b => by
    have c1 := mnI_c p.1 (p.2.2 + t)
    have c2 := mxI_c p.2.1 (p.2.2 + t)
    have g1 : (swStep p t).1 ≤ (swStep p t).2.2 := by show mnI _ _ ≤ p.2.2 + t; omega
    have g2 : (swStep p t).2.2 ≤ (swStep p t).2.1 := by show p.2.2 + t ≤ mxI _ _; omega
    have k := sw_free (S := S) (x := x) ts (swStep p t) g1 g2 a b
    obtain ⟨i1, i2, i3⟩ := sw_in ts (swStep p t) g1 g2
    have e1 : (swStep p t).1 = mnI p.1 (p.2.2 + t) := rfl
    have e2 : (swStep p t).2.1 = mxI p.2.1 (p.2.2 + t) := rfl
    have e3 : (swStep p t).2.2 = p.2.2 + t := rfl
    have a' : 0 ≤ x + (swF (swStep p t) ts).1 := a
    have b' : x + (swF (swStep p t) ts).2.1 ≤ S := b
    show led S ts (cl S (x + p.2.2 + t)) = _
    rw [cl_in (by omega) (by omega), List.sum_cons]
    rw [show x + p.2.2 + t = x + (swStep p t).2.2 by omega, k]
    omega
theorem sw_zero (ts : List Int) : (sw ts).1 ≤ 0 ∧ 0 ≤ (sw ts).2.1 := by
  obtain ⟨a, b, _⟩ := sw_in ts (0, 0, 0) (Int.le_refl _) (Int.le_refl _)
  exact ⟨a, b⟩
theorem end_sw (ts : List Int) : endOf ts ≤ (sw ts).2.1 - (sw ts).1 := by
  obtain ⟨a, b⟩ := sw_zero ts
  by_cases z : endOf ts ≤ (sw ts).2.1 - (sw ts).1
  · exact z
  · have h1 := sw_free (S := endOf ts) (x := 0 - (sw ts).1) ts (0, 0, 0) (Int.le_refl _) (Int.le_refl _) (by show 0 ≤ 0 - (sw ts).1 + (sw ts).1; omega) (by show 0 - (sw ts).1 + (sw ts).2.1 ≤ endOf ts; omega)
    have h2 := sw_free (S := endOf ts) (x := 1 - (sw ts).1) ts (0, 0, 0) (Int.le_refl _) (Int.le_refl _) (by show 0 ≤ 1 - (sw ts).1 + (sw ts).1; omega) (by show 1 - (sw ts).1 + (sw ts).2.1 ≤ endOf ts; omega)
    dsimp only at h1 h2
    have e0 : 0 ≤ endOf ts := by omega
    have k1 := flat (f := form ts) (S := endOf ts) e0 (Int.le_refl _) (x := 0 - (sw ts).1 + 0) (by omega) (by omega)
    have k2 := flat (f := form ts) (S := endOf ts) e0 (Int.le_refl _) (x := 1 - (sw ts).1 + 0) (by omega) (by omega)
    rw [form_led e0 (by omega) (by omega), h1] at k1
    rw [form_led e0 (by omega) (by omega), h2] at k2
    omega
theorem sw_mul {w : Int} (hw : 0 < w) : ∀ (ts : List Int) (p : Sw), swF (w * p.1, w * p.2.1, w * p.2.2) (ts.map (w * ·)) = (w * (swF p ts).1, w * (swF p ts).2.1, w * (swF p ts).2.2)
  | [], p => rfl
  | t :: ts, p => by
    have e : swStep (w * p.1, w * p.2.1, w * p.2.2) (w * t) = (w * (swStep p t).1, w * (swStep p t).2.1, w * (swStep p t).2.2) := by
      unfold swStep
      dsimp only
      rw [← Int.mul_add]
      have m1 : mnI (w * p.1) (w * (p.2.2 + t)) = w * mnI p.1 (p.2.2 + t) := by
        unfold mnI
        have : w * (p.2.2 + t) < w * p.1 ↔ p.2.2 + t < p.1 := Int.mul_lt_mul_left hw
        by_cases c : p.2.2 + t < p.1
        · rw [if_pos c, if_pos (this.mpr c)]
        · rw [if_neg c, if_neg (fun z => c (this.mp z))]
      have m2 : mxI (w * p.2.1) (w * (p.2.2 + t)) = w * mxI p.2.1 (p.2.2 + t) := by
        unfold mxI
        have : w * (p.2.2 + t) > w * p.2.1 ↔ p.2.2 + t > p.2.1 := Int.mul_lt_mul_left hw
        by_cases c : p.2.2 + t > p.2.1
        · rw [if_pos c, if_pos (this.mpr c)]
        · rw [if_neg c, if_neg (fun z => c (this.mp z))]
      rw [m1, m2]
    show swF (swStep (w * p.1, w * p.2.1, w * p.2.2) (w * t)) (ts.map (w * ·)) = _
    rw [e]
    exact sw_mul hw ts (swStep p t)
theorem sw_muls {w : Int} (hw : 0 < w) (ts : List Int) : sw (ts.map (w * ·)) = (w * (sw ts).1, w * (sw ts).2.1, w * (sw ts).2.2) := by
  have := sw_mul hw ts (0, 0, 0)
  dsimp only at this
  rw [Int.mul_zero] at this
  exact this
end K38
set_option Elab.async false
set_option maxRecDepth 100000
set_option maxHeartbeats 4000000
set_option linter.all false
/-! K38: some lists of great numbers. -/
namespace K38
theorem cl_c {S : Int} (hS : 0 ≤ S) (y : Int) : (y ≤ 0 ∧ cl S y = 0) ∨ (0 ≤ y ∧ y ≤ S ∧ cl S y = y) ∨ (S ≤ y ∧ cl S y = S) := by
  by_cases a : y ≤ 0
  · exact .inl ⟨a, cl_lo hS a⟩
  · by_cases b : y ≤ S
    · exact .inr (.inl ⟨by omega, b, cl_in (by omega) b⟩)
    · exact .inr (.inr ⟨by omega, cl_hi hS (by omega)⟩)
theorem led1 (S x a : Int) : led S [a] x = cl S (x + a) := rfl
theorem led2 (S x a b : Int) : led S [a, b] x = cl S (cl S (x + a) + b) := rfl
section
variable {F L : Int} (hL : 1 ≤ L) (hF : L + 2 ≤ F)
include hL hF
theorem ex1 : FirstDiff [F] [F - 1] F 0 := by
  refine ⟨by omega, by omega, fun S y y0 y1 hS => ?_, fun y a b => by omega, ?_⟩
  · rw [led1, led1, cl_hi (by omega) (by omega), cl_hi (by omega) (by omega)]
  · rw [led1, led1, cl_hi (by omega) (by omega), cl_in (by omega) (by omega)]
    omega
theorem ex2 : FirstDiff [1 - F] [0 - F] F F := by
  refine ⟨by omega, by omega, fun S y y0 y1 hS => ?_, fun y a b => ?_, ?_⟩
  · rw [led1, led1, cl_lo (by omega) (by omega), cl_lo (by omega) (by omega)]
  · rw [led1, led1, cl_lo (by omega) (by omega), cl_lo (by omega) (by omega)]
  · rw [led1, led1, cl_in (by omega) (by omega), cl_lo (by omega) (by omega)]
    omega
theorem ex3 : FirstDiff [F, 0 - L] [F, 0 - L - 1] (L + 1) 0 := by
  refine ⟨by omega, by omega, fun S y y0 y1 hS => ?_, fun y a b => by omega, ?_⟩
  · rw [led2, led2, cl_hi (S := S) (x := y + F) (by omega) (by omega), cl_lo (by omega) (by omega), cl_lo (by omega) (by omega)]
  · rw [led2, led2, cl_hi (S := L + 1) (x := 0 + F) (by omega) (by omega), cl_in (x := L + 1 + (0 - L)) (by omega) (by omega), cl_lo (by omega) (by omega)]
    omega
theorem ex4 : FirstDiff [0 - F, L] [0 - F, L + 1] (L + 1) 0 := by
  refine ⟨by omega, by omega, fun S y y0 y1 hS => ?_, fun y a b => by omega, ?_⟩
  · rw [led2, led2, cl_lo (S := S) (x := y + (0 - F)) (by omega) (by omega), cl_hi (by omega) (by omega), cl_hi (by omega) (by omega)]
  · rw [led2, led2, cl_lo (S := L + 1) (x := 0 + (0 - F)) (by omega) (by omega), cl_in (x := 0 + L) (by omega) (by omega), cl_in (by omega) (by omega)]
    omega
theorem ex5 : FirstDiff [L, 0 - F] [L + 1, 0 - F] (F + 1) (F - L) := by
  refine ⟨by omega, by omega, fun S y y0 y1 hS => ?_, fun y a b => ?_, ?_⟩
  · rw [led2, led2]
    have r1 := cl_rng (S := S) (x := y + L) (by omega)
    have r2 := cl_rng (S := S) (x := y + (L + 1)) (by omega)
    rw [cl_lo (by omega) (by omega), cl_lo (by omega) (by omega)]
  · rw [led2, led2]
    have r1 := cl_c (S := F + 1) (by omega) (y + L)
    have r2 := cl_c (S := F + 1) (by omega) (y + (L + 1))
    rw [cl_lo (by omega) (by omega), cl_lo (by omega) (by omega)]
  · rw [led2, led2, cl_in (S := F + 1) (x := F - L + L) (by omega) (by omega), cl_in (S := F + 1) (x := F - L + (L + 1)) (by omega) (by omega), cl_lo (by omega) (by omega), cl_in (by omega) (by omega)]
    omega
theorem far_of {ts : List Int} {v B : Int} (h : ∀ S, B ≤ S → lw ts S = v) : lw ts (endOf ts) = v := by
  by_cases c : B ≤ endOf ts
  · exact h _ c
  · rw [← lw_far ts (show endOf ts ≤ B by omega)]
    exact h B (Int.le_refl _)
theorem lwA {S : Int} (h : 0 ≤ S) : lw [F, 0 - L] S = if S ≤ L then 0 else if S ≤ F then S - L else F - L := by
  unfold lw
  rw [led2]
  have r1 := cl_c h (0 + F)
  have r2 := cl_c h (cl S (0 + F) + (0 - L))
  split
  · omega
  · split <;> omega
theorem lwB {S : Int} (h : 0 ≤ S) : lw [L, 0 - F] S = 0 := by
  unfold lw
  rw [led2]
  have r1 := cl_c h (0 + L)
  have r2 := cl_c h (cl S (0 + L) + (0 - F))
  omega
theorem leA {k m : Int} (hk : 1 ≤ k) (hk2 : k ≤ F - L) (hm : m = L + k) : IsLeast [F, 0 - L] k m := by
  subst hm
  refine ⟨by omega, ?_, fun S a b => ?_⟩
  · rw [lwA hL hF (by omega), if_neg (by omega), if_pos (by omega)]
    omega
  · rw [lwA hL hF a]
    split
    · omega
    · split <;> omega
theorem farA : lw [F, 0 - L] (endOf [F, 0 - L]) = F - L := far_of (B := F) hL hF fun S h => by
  rw [lwA hL hF (by omega), if_neg (by omega)]
  split <;> omega
theorem ex6 (h : 4 ≤ F - L) : RoomsIs [F, 0 - L] 3 (some (L + 3, some (L + 3))) := by
  have fa := farA hL hF
  have l1 := leA (k := 3) hL hF (by omega) (by omega) rfl
  have l2 := leA (k := 3 + 1) hL hF (by omega) (by omega) rfl
  refine .inr (.inr ⟨L + 3, L + (3 + 1), by simp; omega, by omega, l1, l2, ?_⟩)
  exact l2.le (gr_nn _) (by omega)
theorem ex7 : RoomsIs [L, 0 - F] 0 (some (0, none)) := by
  have fa : lw [L, 0 - F] (endOf [L, 0 - F]) = 0 := lwB hL hF (gr_nn _)
  refine .inr (.inl ⟨0, rfl, fa, ⟨Int.le_refl _, by rw [lw_zero]; exact Int.le_refl _, fun S a b => by omega⟩, gr_nn _⟩)
theorem ex8 : RoomsIs [F, 0 - L] (F - L) (some (F, none)) := by
  have l1 := leA (k := F - L) (m := F) hL hF (by omega) (by omega) (by omega)
  have fa := farA hL hF
  refine .inr (.inl ⟨F, rfl, fa, l1, ?_⟩)
  exact l1.le (gr_nn _) (by omega)
theorem ex9 : RoomsIs [F] (F + 1) none := by
  refine .inl ⟨rfl, ?_⟩
  have : lw [F] (endOf [F]) = F := far_of (B := F) hL hF fun S h => by
    unfold lw
    rw [led1, cl_in (by omega) (by omega)]
    omega
  omega
end
end K38
set_option Elab.async false
set_option pp.maxSteps 1200
set_option linter.all false
set_option maxRecDepth 100000
set_option maxHeartbeats 4000000
namespace K38
open PySem L2 My
theorem at0 {α : Type} {a : α} {l : List α} : atI (a :: l) 0 = some a := atI_nat (j := 0) rfl
theorem at1 {α : Type} {a b : α} {l : List α} : atI (a :: b :: l) 1 = some b := atI_nat (j := 1) rfl
theorem at2 {α : Type} {a b c : α} {l : List α} : atI (a :: b :: c :: l) 2 = some c := atI_nat (j := 2) rfl
theorem _root_.My.Raised.mono {C : Addr} {v : V} {H H1 : Hp} {E : XK} (e : Ex H H1) (h : Raised C v H E) : Raised C v H1 E := fun d H' hd e' hx => h d H' (Evl.fresh_back e hd) (e.trans e') hx
end K38
set_option Elab.async false
set_option pp.maxSteps 1200
set_option linter.all false
set_option maxRecDepth 100000
set_option maxHeartbeats 4000000
namespace K38
open PySem L2 My
/-! ### the jug -/
/-- a jug of draws stands at j, of which at most B were mixed -/
def Jug (H : Hp) (j : Addr) (B : Int) : Prop := ∃ x y z : Int, H j = some (.lst [.int x, .int y, .int z]) ∧ 0 ≤ y ∧ y < 2 ^ 200 ∧ 0 ≤ z ∧ z ≤ B
theorem Jug.ex {H H' : Hp} {j : Addr} {B : Int} (e : Ex H H') : Jug H j B → Jug H' j B
  | ⟨x, y, z, h, r⟩ => ⟨x, y, z, e _ _ h, r⟩
theorem Jug.mono {H : Hp} {j : Addr} {B B' : Int} (h : B ≤ B') : Jug H j B → Jug H j B'
  | ⟨x, y, z, h1, h2, h3, h4, h5⟩ => ⟨x, y, z, h1, h2, h3, h4, by omega⟩
theorem mix_lt {m z : Int} (h0 : 0 ≤ m) (h1 : m < 2 ^ 200) (z0 : 0 ≤ z) (z1 : z ≤ 2 ^ 60) : (m + 13466917 * (z + 1)).natAbs < 2 ^ 210 := by omega
def sp__law_pour : Sp := fun vs H Q _ => ∃ (j : Addr) (many B : Int), vs = [.ref j, .int many] ∧ Jug H j B ∧ B ≤ 2 ^ 60 ∧ 0 < many ∧ many < 2 ^ 200 ∧
  ∀ (n : Int) (H' : Hp), 0 ≤ n → n < many → Exj j H H' → Jug H' j (B + 1) → Q (.int n) H'
section
variable {P : Program} {w : World} {K : PySem.W.Frag} {mg : Str → Option Value} {base : Heap}
theorem ok__law_pour (T : Txt K mg) : FnOk P w K mg base CX0 1 T.a__law_pour T.d__law_pour ["_law_jug_here", "_law_many"] sp__law_pour := by
  refine T.f__law_pour.ok sc__law_pour (fun vs H Q E h => ?_) (fun cdv A outer s H vs Q E hr h => ?_)
  · obtain ⟨j, many, B, rfl, _⟩ := h
    rfl
  · obtain ⟨j, many, B, rfl, ⟨x, y, z, hj, y0, y1, z0, z1⟩, hB, m0, m1, k⟩ := h
    refine ⟨_, (pss_cons (ps_if (pt_cmpR op_gt (pe_ix ix_list (pv 0) pe_int (fun _ _ => rfl)) pe_int (nomark _)) (pss_cons (ps_set (i := 2) sc__law_pour.nd rfl (by first | exact Or.inl rfl | exact Or.inr rfl) (pe_op op_mod (pe_callTy call_int1 (by rfl) T.z_int (by decide +kernel) (pa_cons (pe_ix ix_list (pv 0) pe_int (fun _ _ => rfl)) pa_nil)) (pv 1))) (pss_cons (ps_asg (pe_op op_fdivW (pe_ix ix_list (pv 0) pe_int (fun _ _ => rfl)) (pv 1)) (pg_sub (pv 0) pe_int set_list)) (pss_one (ps_ret (pv 2))))) pss_nil) (pss_cons (ps_asg (pe_op op_add (pe_ix ix_list (pv 0) pe_int (fun _ _ => rfl)) pe_int) (pg_sub (pv 0) pe_int set_list)) (pss_cons (ps_set (i := 3) sc__law_pour.nd rfl (by first | exact Or.inl rfl | exact Or.inr rfl) (pe_op op_mod (pe_callTy call_int1 (by rfl) T.z_int (by decide +kernel) (pa_cons (pe_op op_powW (pe_op op_add (pe_ix ix_list (pv 0) pe_int (fun _ _ => rfl)) (pe_op op_mulW pe_int (pe_ix ix_list (pv 0) pe_int (fun _ _ => rfl)))) pe_int) pa_nil)) (pe_op op_add (pe_op op_powW pe_int pe_int) pe_int))) (pss_cons (ps_set (i := 3) sc__law_pour.nd rfl (by first | exact Or.inl rfl | exact Or.inr rfl) (pe_op op_mod (pe_callTy call_int1 (by rfl) T.z_int (by decide +kernel) (pa_cons (pe_op op_powW (pe_op op_add (pv 3) (pe_op op_mulW pe_int (pe_ix ix_list (pv 0) pe_int (fun _ _ => rfl)))) pe_int) pa_nil)) (pe_op op_add (pe_op op_powW pe_int pe_int) pe_int))) (pss_one (ps_ret (pe_op op_mod (pe_op op_fdivW (pv 3) pe_int) (pv 1)))))))), ?_⟩
    have sq : ∀ {H' : Hp} {l : List V}, H' j = some (.lst l) → SqL K H' j l := fun h => sqI h
    have m2 : many.natAbs < 2 ^ 200 := by omega
    -- if _law_jug_here[0] > 0:
    refine ⟨_, rfl, _, _, _, _, rfl, rfl, sq hj, at0, _, _, rfl, rfl, _, rfl, ?_⟩
    refine ite2 (fun c => ?_) (fun c => ?_)
    · -- _law_found = int(_law_jug_here[0]) % _law_many
      refine ⟨_, rfl, _, _, _, _, rfl, rfl, sq hj, at0, .inl ⟨_, rfl, ?_⟩⟩
      refine ⟨_, rfl, _, _, rfl, rfl, m0, ?_⟩
      -- _law_jug_here[0] = _law_jug_here[0] // _law_many
      refine ⟨_, rfl, _, _, _, _, rfl, rfl, sq hj, at0, _, rfl, _, _, rfl, rfl, wide_div m0 m2 (by decide) (by decide), _, rfl, _, _, _, _, rfl, rfl, hj, (show _ = some 0 from rfl), ?_⟩
      -- return _law_found
      refine ⟨_, rfl, ?_⟩
      exact k _ _ (Int.emod_nonneg _ (by omega)) (Int.emod_lt_of_pos _ m0) (Exj.refl _ _).upd ⟨_, y, z, upd_same, y0, y1, z0, by omega⟩
    · -- _law_jug_here[2] = _law_jug_here[2] + 1
      refine ⟨_, rfl, _, _, _, _, rfl, rfl, sq hj, at2, _, _, rfl, rfl, _, rfl, _, _, _, _, rfl, rfl, hj, (show _ = some 2 from rfl), ?_⟩
      have hj1 : upd H j (.lst [.int x, .int y, .int (z + 1)]) j = some (.lst [.int x, .int y, .int (z + 1)]) := upd_same
      have ez : (z + 1).natAbs < 2 ^ 70 := by omega
      have b1 : (y + 24036583 * (z + 1)).natAbs < 2 ^ 210 := by omega
      -- _law_mixed = ..
      refine ⟨_, rfl, _, _, _, _, rfl, rfl, sq hj1, at1, _, rfl, _, _, _, _, rfl, rfl, sq hj1, at2, _, _, rfl, rfl, wide_mul (a := 30) (b := 70) (by decide) ez (by decide) (by decide) (by decide), _, _, rfl, rfl, _, _, rfl, rfl, powW_of (j := 3) b1 (by decide) (by decide), .inl ⟨_, rfl, ?_⟩⟩
      refine ⟨_, _, rfl, rfl, (show CPowW 10 42 by constructor <;> decide +kernel), _, _, rfl, rfl, _, _, rfl, rfl, (show (0 : Int) < 10 ^ (42 : Int).toNat + 63 by decide +kernel), ?_⟩
      -- the first mixture by a letter
      have q0 := Int.emod_nonneg ((y + 24036583 * (z + 1)) ^ (3 : Int).toNat) (show ((10 : Int) ^ (42 : Int).toNat + 63) ≠ 0 by decide +kernel)
      have q1 := Int.emod_lt_of_pos ((y + 24036583 * (z + 1)) ^ (3 : Int).toNat) (show 0 < ((10 : Int) ^ (42 : Int).toNat + 63) by decide +kernel)
      have q2 : ((10 : Int) ^ (42 : Int).toNat + 63) < 2 ^ 200 := by decide +kernel
      have b2 := mix_lt (z := z) q0 (Int.lt_trans q1 q2) z0 (Int.le_trans z1 hB)
      -- _law_mixed = ..
      refine ⟨_, rfl, _, rfl, _, _, _, _, rfl, rfl, sq hj1, at2, _, _, rfl, rfl, wide_mul (a := 30) (b := 70) (by decide) ez (by decide) (by decide) (by decide), _, _, rfl, rfl, _, _, rfl, rfl, powW_of (j := 3) b2 (by decide) (by decide), .inl ⟨_, rfl, ?_⟩⟩
      refine ⟨_, _, rfl, rfl, (show CPowW 10 44 by constructor <;> decide +kernel), _, _, rfl, rfl, _, _, rfl, rfl, (show (0 : Int) < 10 ^ (44 : Int).toNat + 57 by decide +kernel), ?_⟩
      -- return _law_mixed // 1299709 % _law_many
      refine ⟨_, rfl, _, _, rfl, rfl, wide_div (b := 40) (by decide) (by decide) (by decide) (by decide), _, rfl, _, _, rfl, rfl, m0, ?_⟩
      exact k _ _ (Int.emod_nonneg _ (by omega)) (Int.emod_lt_of_pos _ m0) (Exj.refl _ _).upd ⟨x, y, z + 1, upd_same, y0, y1, by omega, by omega⟩
end
def sp__law_jug (K : PySem.W.Frag) : Sp := fun vs H Q _ => ∃ (a : Addr) (ns : List Int) (k : Int), vs = [.ref a, .int k] ∧ SqL K H a (ns.map V.int) ∧ 0 ≤ k ∧ k ≤ 100 ∧ ∀ (p : Addr) (H' : Hp), H p = none → Ex H H' → Jug H' p 0 → Q (.ref p) H'
def sp__law_turns : Sp := fun vs H Q _ => ∃ (j : Addr) (most size B : Int), vs = [.ref j, .int most, .int size] ∧ Jug H j B ∧ B ≤ 2 ^ 50 ∧ 0 ≤ most ∧ most ≤ 50 ∧ 0 ≤ size ∧ size ≤ 100 ∧
  ∀ (p : Addr) (H' : Hp) (ts : List Int), H p = none → Exj j H H' → Jug H' j (B + 100) → H' p = some (.lst (ts.map V.int)) → ts.length ≤ 60 → (∀ t ∈ ts, -100 ≤ t ∧ t ≤ 100) → Q (.ref p) H'
theorem Jug.some {H : Hp} {j : Addr} {B : Int} : Jug H j B → ∃ o, H j = some o
  | ⟨_, _, _, h, _⟩ => ⟨_, h⟩
theorem Jug.ne {H : Hp} {j p : Addr} {B : Int} (h : Jug H j B) (n : H p = none) : p ≠ j := by
  obtain ⟨o, ho⟩ := h.some
  exact (ne_of_none ho n).symm
theorem _root_.My.Exj.back {j p : Addr} {H H' : Hp} (e : Exj j H H') (n : p ≠ j) (h : H' p = none) : H p = none := by
  cases q : H p with
  | none => rfl
  | some o =>
    rw [e p o n q] at h
    cases h
section
variable {P : Program} {w : World} {K : PySem.W.Frag} {mg : Str → Option Value} {base : Heap}
theorem ok__law_jug (T : Txt K mg) : FnOk P w K mg base CX0 1 T.a__law_jug T.d__law_jug ["_law_script", "_law_k"] (sp__law_jug K) := by
  refine T.f__law_jug.ok sc__law_jug (fun vs H Q E h => ?_) (fun cdv A outer s H vs Q E hr h => ?_)
  · obtain ⟨a, ns, k, rfl, _⟩ := h
    rfl
  · obtain ⟨a, ns, n, rfl, hs, n0, n1, k⟩ := h
    refine ⟨_, (pss_cons (ps_set (i := 2) sc__law_jug.nd rfl (by first | exact Or.inl rfl | exact Or.inr rfl) (pe_cut (pe_ifExp (pt_cmpR op_lt (pv 1) (pe_callB call_len_seq (by rfl) T.z_len PySem.boot_len (pa_cons (pv 0) pa_nil)) (nomark _)) (pe_ix ix_list (pv 0) (pv 1) (fun _ _ => rfl)) pe_int))) (pss_one (ps_ret (pe_lstG (pa_cons (pe_callB (call_max2 rfl) (by rfl) T.z_max (by decide +kernel) (pa_cons pe_int (pa_cons (pe_op op_sub (pv 2) (pe_op op_powW pe_int pe_int)) pa_nil))) (pa_cons (pe_op op_add (pe_op op_add (pe_op op_mulW (pe_op op_mod (pv 2) (pe_op op_add (pe_op op_powW pe_int pe_int) pe_int)) pe_int) (pe_op op_mulW pe_int (pv 1))) pe_int) (pa_cons pe_int pa_nil))))))), ?_⟩
    -- _law_cell = _law_script[_law_k] if _law_k < len(_law_script) else 0
    refine ⟨fun v H' => H' = H ∧ ∃ c : Int, v = .int c, ?_, ?_⟩
    · refine ⟨_, rfl, _, rfl, _, _, rfl, .inl hs, _, _, rfl, rfl, _, rfl, ?_⟩
      refine ifB (fun c => ?_) (fun c => ⟨rfl, _, rfl⟩)
      have c' : n < ((ns.map V.int).length : Int) := of_decide_eq_true c
      rw [List.length_map] at c'
      have hx : ns[n.toNat]? = some (ns[n.toNat]'(by omega)) := List.getElem?_eq_getElem (by omega)
      refine ⟨_, rfl, _, rfl, _, _, _, _, rfl, rfl, hs, at_of (j := n.toNat) (by omega) (by rw [List.getElem?_map, hx]; rfl), rfl, _, rfl⟩
    · rintro v H' ⟨rfl, c, rfl⟩
      have q0 := Int.emod_nonneg c (show ((10 : Int) ^ (39 : Int).toNat + 3) ≠ 0 by decide +kernel)
      have q1 := Int.emod_lt_of_pos c (show 0 < ((10 : Int) ^ (39 : Int).toNat + 3) by decide +kernel)
      have q2 : ((10 : Int) ^ (39 : Int).toNat + 3) < 2 ^ 140 := by decide +kernel
      have b0 : (c % ((10 : Int) ^ (39 : Int).toNat + 3)).natAbs < 2 ^ 140 := by
        have := Int.lt_trans q1 q2
        omega
      refine ⟨_, rfl, _, _, rfl, rfl, (show CPowW 10 18 by constructor <;> decide +kernel), _, _, rfl, rfl, _, _, rfl, _, rfl, _, _, rfl, rfl, (show CPowW 10 39 by constructor <;> decide +kernel), _, _, rfl, rfl, _, _, rfl, rfl, (show (0 : Int) < 10 ^ (39 : Int).toNat + 3 by decide +kernel), _, _, rfl, rfl, wide_mul (b := 10) b0 (by decide) (by decide) (by decide) (by decide), _, rfl, _, _, rfl, rfl, wide_mul (a := 20) (b := 10) (by decide) (by omega) (by decide) (by decide) (by decide), _, _, rfl, rfl, _, _, rfl, rfl, (by show 3 ≤ sizeLine; decide), fun p1 H1 n1 e1 h1 => ?_⟩
      refine k p1 H1 n1 e1 ⟨_, _, _, h1, ?_, ?_, Int.le_refl _, Int.le_refl _⟩
      · show 0 ≤ c % ((10 : Int) ^ (39 : Int).toNat + 3) * 211 + 50021 * n + 29
        have := Int.mul_nonneg q0 (show (0 : Int) ≤ 211 by decide)
        omega
      · show c % ((10 : Int) ^ (39 : Int).toNat + 3) * 211 + 50021 * n + 29 < 2 ^ 200
        generalize c % ((10 : Int) ^ (39 : Int).toNat + 3) = d at q0 b0 ⊢
        omega
theorem ok__law_turns (T : Txt K mg) : FnOk P w K mg base CX0 2 T.a__law_turns T.d__law_turns ["_law_jug_here", "_law_most", "_law_size"] sp__law_turns := by
  refine T.f__law_turns.ok sc__law_turns (fun vs H Q E h => ?_) (fun cdv A outer s H vs Q E hr h => ?_)
  · obtain ⟨j, most, size, B, rfl, _⟩ := h
    rfl
  · obtain ⟨j, most, size, B, rfl, hj, hB, m0, m1, s0, s1, k⟩ := h
    refine ⟨_, (pss_cons (ps_set (i := 3) sc__law_turns.nd rfl (by first | exact Or.inl rfl | exact Or.inr rfl) (pe_cut (pe_ifExp (pt_cmpR op_eq (pe_call (ok__law_pour T) (hr.mono (by decide)) (by rfl) T.g__law_pour T.f__law_pour.kp (b__law_pour T) .nil pass0 (pa_cons (pv 0) (pa_cons pe_int pa_nil))) pe_int (nomark _)) pe_int (pe_call (ok__law_pour T) (hr.mono (by decide)) (by rfl) T.g__law_pour T.f__law_pour.kp (b__law_pour T) .nil pass0 (pa_cons (pv 0) (pa_cons (pe_op op_add (pv 1) pe_int) pa_nil)))))) (pss_one (ps_ret (pe_lc (own := [("_law_turn", 4)]) (g := gName 4) (by rfl) sc__law_turns.nd (pi_range1 (by rfl) T.z_range (pa_cons (pv 3) pa_nil)) (blkOk_by (own := [("_law_turn", 4)]) (N := ["_law_jug_here", "_law_most", "_law_size", "_law_many", "_law_turn"]) (sc := (defScope s__law_turns)) (by decide +kernel)) (fun _ _ _ _ _ => (pg_name (i := 4) sc__law_turns.nd rfl (by first | exact Or.inl rfl | exact Or.inr rfl))) (fun _ _ _ _ _ => pts_nil) (fun _ _ _ _ _ => (pe_op op_sub (pe_call (ok__law_pour T) (hr.mono (by decide)) (by rfl) T.g__law_pour T.f__law_pour.kp (b__law_pour T) .nil pass0 (pa_cons (pv 0) (pa_cons (pe_op op_add (pe_op op_mulW pe_int (pv 2)) pe_int) pa_nil))) (pv 2))))))), ?_⟩
    refine ⟨fun v H' => ∃ n : Int, v = .int n ∧ 0 ≤ n ∧ n ≤ 60 ∧ Exj j H H' ∧ Jug H' j (B + 2), ?_, ?_⟩
    · refine ⟨_, rfl, j, _, B, rfl, hj, by omega, by decide, by decide, fun n H1 n0 n1 e1 j1 => ?_⟩
      refine ⟨rfl, _, rfl, ?_⟩
      refine ifB (fun c => ⟨60, rfl, by omega, by omega, e1, j1.mono (by omega)⟩) (fun c => ?_)
      refine ⟨_, rfl, _, rfl, _, _, rfl, rfl, j, _, _, rfl, j1, by omega, by omega, by omega, fun n H2 n0 n1 e2 j2 => ?_⟩
      exact ⟨n, rfl, n0, by omega, e1.trans e2, j2.mono (by omega)⟩
    · rintro v H1 ⟨n, rfl, n0, n1, e1, j1⟩
      refine ⟨_, rfl, _, rfl, (by omega), (by omega), fun D hD => lc_range (lo := 0) (n := n.toNat) (fun i H2 => ∃ ts : List Int, Exj j H1 H2 ∧ Jug H2 j (B + 2 + i) ∧ H2 D = some (.lst (ts.map V.int)) ∧ ts.length = i ∧ ∀ t ∈ ts, -100 ≤ t ∧ t ≤ 100) ?_ ?_ ?_⟩
      · exact ⟨[], Exj.of (Evl.Ex.new hD), (j1.ex (Evl.Ex.new hD)).mono (by omega), upd_same, rfl, fun t ht => by cases ht⟩
      · rintro i H2 hi ⟨ts, e2, j2, hd, hl, ht⟩
        have nDj : D ≠ j := j1.ne hD
        refine ⟨rfl, ?_⟩
        show _
        refine ⟨_, rfl, _, rfl, _, _, rfl, rfl, wide_mul (a := 10) (b := 20) (by decide) (by omega) (by decide) (by decide) (by decide), _, _, rfl, rfl, j, _, _, rfl, j2, by omega, by omega, by omega, fun m H3 k0 k1 e3 j3 => ?_⟩
        refine ⟨_, rfl, _, _, rfl, rfl, ts.map V.int, e3 _ _ nDj hd, ?_, ?_⟩
        · rw [List.length_map, hl]
          exact Nat.lt_of_lt_of_le (show i < 60 by omega) (by decide)
        · have exD : Exj j H1 (upd H3 D (.lst (ts.map V.int ++ [.int (m - size)]))) := fun b o nb hb => by
            rw [upd_ne (ne_of_none hb hD)]
            exact e3 _ _ nb (e2 _ _ nb hb)
          refine ⟨ts ++ [m - size], exD, ?_, ?_, by simp [hl], fun t h => ?_⟩
          · obtain ⟨x, y, z, h, r1, r2, r3, r4⟩ := j3
            exact ⟨x, y, z, by rw [upd_ne nDj.symm]; exact h, r1, r2, r3, by omega⟩
          · rw [upd_same, List.map_append]
            rfl
          · rcases List.mem_append.mp h with q | q
            · exact ht t q
            · have : t = m - size := by simpa using q
              omega
      · rintro H2 ⟨ts, e2, j2, hd, hl, ht⟩
        exact k D H2 ts (e1.back (j1.ne hD) hD) (e1.trans e2) (j2.mono (by omega)) hd (by omega) ht
end
end K38

set_option Elab.async false
set_option pp.maxSteps 1200
set_option linter.all false
set_option maxRecDepth 100000
set_option maxHeartbeats 4000000
namespace K38
open PySem L2 My
theorem lastG {α : Type} (l : List α) (v : α) : (l ++ [v])[(l ++ [v]).length - 1]? = some v := by simp
theorem lastI {α : Type} (l : List α) (v : α) : ixN (l ++ [v]).length (-1) = some l.length := by
  unfold ixN
  rw [if_neg (by decide), if_pos (by simp; omega)]
  simp
  omega
theorem lastS {α : Type} (l : List α) (v z : α) : (l ++ [v]).set l.length z = l ++ [z] := by simp
/-- a stack as the list that stands in the heap -/
abbrev ls (r : List Int) : List V := r.reverse.map V.int
theorem ls_cons (a : Int) (r : List Int) : ls (a :: r) = ls r ++ [V.int a] := by
  show (a :: r).reverse.map V.int = r.reverse.map V.int ++ [V.int a]
  rw [List.reverse_cons, List.map_append]
  rfl
theorem add_zero (r : List Int) : add r 0 = r := by
  cases r with
  | nil =>
    unfold add
    rw [if_pos rfl]
  | cons a r =>
    unfold add
    rw [if_pos rfl]
theorem add_nil {w : Int} (h : w ≠ 0) : add [] w = [w] := by
  unfold add
  rw [if_neg h]
theorem add_same {a w : Int} {r : List Int} (h : w ≠ 0) (h1 : decide (a > 0) = decide (w > 0)) : add (a :: r) w = add r (w + a) := by
  conv => lhs; unfold add
  rw [if_neg h, if_pos h1]
theorem add_one {a w : Int} (h : w ≠ 0) (h1 : ¬ decide (a > 0) = decide (w > 0)) : add [a] w = [w, a] := by
  unfold add
  rw [if_neg h, if_neg h1]
theorem add_mid {a p w : Int} {r : List Int} (h : w ≠ 0) (h1 : ¬ decide (a > 0) = decide (w > 0)) (h2 : ab a ≤ ab w) (h3 : ab a ≤ ab p) : add (a :: p :: r) w = add r (w + a + p) := by
  conv => lhs; unfold add
  rw [if_neg h, if_neg h1]
  dsimp only
  rw [if_pos h2, if_pos h3]
theorem add_low {a p w : Int} {r : List Int} (h : w ≠ 0) (h1 : ¬ decide (a > 0) = decide (w > 0)) (h2 : ab a ≤ ab w) (h3 : ¬ ab a ≤ ab p) : add (a :: p :: r) w = add ((p + a) :: r) w := by
  conv => lhs; unfold add
  rw [if_neg h, if_neg h1]
  dsimp only
  rw [if_pos h2, if_neg h3]
theorem add_top {a p w : Int} {r : List Int} (h : w ≠ 0) (h1 : ¬ decide (a > 0) = decide (w > 0)) (h2 : ¬ ab a ≤ ab w) : add (a :: p :: r) w = w :: a :: p :: r := by
  unfold add
  rw [if_neg h, if_neg h1]
  dsimp only
  rw [if_neg h2]
theorem mapI_get {ts : List Int} {i : Nat} {x : V} (h : (ts.map V.int)[i]? = some x) : ∃ t, ts[i]? = some t ∧ x = V.int t := by
  rw [List.getElem?_map] at h
  cases e : ts[i]? with
  | none =>
    rw [e] at h
    cases h
  | some t =>
    rw [e] at h
    exact ⟨t, rfl, (Option.some.inj h).symm⟩
theorem take_next {α : Type} {l : List α} {i : Nat} {x : α} (h : l[i]? = some x) : l.take (i + 1) = l.take i ++ [x] := by
  rw [List.take_add_one, h]
  rfl
def sp_add_turn : Sp := fun vs H Q _ => ∃ (f : Addr) (r : List Int) (w : Int), vs = [.ref f, .int w] ∧ H f = some (.lst (ls r)) ∧ r.length ≤ 1000 ∧
  ∀ H' : Hp, Exj f H H' → H' f = some (.lst (ls (add r w))) → Q .non H'
def sp_form_in (K : PySem.W.Frag) : Sp := fun vs H Q _ => ∃ (a : Addr) (ts : List Int), vs = [.ref a] ∧ SqL K H a (ts.map V.int) ∧ ts.length ≤ 500 ∧ Evl.RetL ((form ts).map V.int) H Q
abbrev sp_short_form := sp_form_in
def sp_turns_alike (K : PySem.W.Frag) : Sp := fun vs H Q _ => ∃ (a b : Addr) (ts us : List Int), vs = [.ref a, .ref b] ∧ SqL K H a (ts.map V.int) ∧ SqL K H b (us.map V.int) ∧ ts.length ≤ 500 ∧ us.length ≤ 500 ∧ Evl.RetV (.bl (decide (form ts = form us))) H Q
section
variable {P : Program} {w : World} {K : PySem.W.Frag} {mg : Str → Option Value} {base : Heap}
theorem ok_add_turn (T : Txt K mg) : FnOk P w K mg base CX0 1 T.a_add_turn T.d_add_turn ["form", "turn"] sp_add_turn := by
  refine T.f_add_turn.ok sc_add_turn (fun vs H Q E h => ?_) (fun cdv A outer s H vs Q E hr h => ?_)
  · obtain ⟨f, r, w, rfl, _⟩ := h
    rfl
  · obtain ⟨f, r, w, rfl, hf, hl, k⟩ := h
    refine ⟨_, (pss_cons (ps_set (i := 2) sc_add_turn.nd rfl (by first | exact Or.inl rfl | exact Or.inr rfl) (pv 1)) (pss_one (ps_while PassesOwn.never (pt_cmpR op_ne (pv 2) pe_int (nomark _)) (pss_one (ps_if (PW.pt (pw_and (pt_cmpR (op_neD hr.units) (pv 0) (pe_lstG pa_nil) (nomark _)) (pw_and1 (pt_cmpR op_eq (pe_cmpR op_gt (pe_ix ix_list (pv 0) (pe_un un_neg pe_int) (fun _ _ => rfl)) pe_int (nomark _)) (pe_cmpR op_gt (pv 2) pe_int (nomark _)) (nomark _))))) (pss_one (ps_set (i := 2) sc_add_turn.nd rfl (by first | exact Or.inl rfl | exact Or.inr rfl) (pe_op op_add (pv 2) (pe_bm0 PySem.F.plainAttrs_list PySem.F.slot_list_pop PySem.F.type_list_pop mt_pop (pv 0))))) (pss_one (ps_if (PW.pt (pw_and (pt_cmpR op_gt (pe_callB call_len_seq (by rfl) T.z_len PySem.boot_len (pa_cons (pv 0) pa_nil)) pe_int (nomark _)) (pw_and1 (pt_cmpR op_ge (pe_callB call_abs (by rfl) T.z_abs (by decide +kernel) (pa_cons (pv 2) pa_nil)) (pe_callB call_abs (by rfl) T.z_abs (by decide +kernel) (pa_cons (pe_ix ix_list (pv 0) (pe_un un_neg pe_int) (fun _ _ => rfl)) pa_nil)) (nomark _))))) (pss_cons (ps_set (i := 3) sc_add_turn.nd rfl (by first | exact Or.inl rfl | exact Or.inr rfl) (pe_bm0 PySem.F.plainAttrs_list PySem.F.slot_list_pop PySem.F.type_list_pop mt_pop (pv 0))) (pss_one (ps_if (pt_cmpR op_le (pe_callB call_abs (by rfl) T.z_abs (by decide +kernel) (pa_cons (pv 3) pa_nil)) (pe_callB call_abs (by rfl) T.z_abs (by decide +kernel) (pa_cons (pe_ix ix_list (pv 0) (pe_un un_neg pe_int) (fun _ _ => rfl)) pa_nil)) (nomark _)) (pss_one (ps_set (i := 2) sc_add_turn.nd rfl (by first | exact Or.inl rfl | exact Or.inr rfl) (pe_op op_add (pe_op op_add (pv 2) (pv 3)) (pe_bm0 PySem.F.plainAttrs_list PySem.F.slot_list_pop PySem.F.type_list_pop mt_pop (pv 0))))) (pss_one (ps_asg (pe_op op_add (pe_ix ix_list (pv 0) (pe_un un_neg pe_int) (fun _ _ => rfl)) (pv 3)) (pg_sub (pv 0) (pe_un un_neg pe_int) set_list)))))) (pss_cons (ps_expr (pe_bm PySem.F.plainAttrs_list PySem.F.slot_list_append PySem.F.type_list_append mt_append (pv 0) (pa_cons (pv 2) pa_nil))) (pss_one (ps_set (i := 2) sc_add_turn.nd rfl (by first | exact Or.inl rfl | exact Or.inr rfl) pe_int)))))))))), ?_⟩
    -- waiting = turn
    refine ⟨_, rfl, ?_⟩
    -- while waiting != 0:
    refine ⟨fun m σ H' => ∃ (r' : List Int) (w' : Int) (mid : Option V), σ = [some (.ref f), some (.int w), some (.int w'), mid] ∧ add r' w' = add r w ∧ Exj f H H' ∧ H' f = some (.lst (ls r')) ∧ r'.length ≤ 1000 + 1 ∧ (w' ≠ 0 → r'.length ≤ 1000) ∧ m = (if w' = 0 then 0 else r'.length + 1), ⟨_, r, w, _, rfl, rfl, Exj.refl _ _, hf, by omega, fun _ => hl, rfl⟩, ?_⟩
    rintro m σ H' ⟨r', w', mid, rfl, ea, ex, hf', hl1, hl2, rfl⟩
    refine ⟨_, rfl, rfl, _, rfl, ?_⟩
    refine ifB (fun c => ?_) (fun c => ?_)
    · have hw : w' ≠ 0 := by
        intro z
        rw [z] at c
        simp at c
      have hl3 := hl2 hw
      rw [if_neg hw]
      refine ⟨fun σ2 H2 => ∃ (r2 : List Int) (w2 : Int) (mid : Option V), σ2 = [some (.ref f), some (.int w), some (.int w2), mid] ∧ add r2 w2 = add r w ∧ Exj f H H2 ∧ H2 f = some (.lst (ls r2)) ∧ r2.length ≤ 1000 + 1 ∧ (w2 ≠ 0 → r2.length ≤ 1000) ∧ (if w2 = 0 then 0 else r2.length + 1) < r'.length + 1, fun σ2 H2 ⟨r2, w2, mid, h1, h2, h3, h4, h5, h6, h7⟩ => ⟨_, h7, r2, w2, mid, h1, h2, h3, h4, h5, h6, rfl⟩, ?_⟩
      -- what the turn's ways come to
      have fin : ∀ (r2 : List Int) (w2 : Int) (mid : Option V) (H2 : Hp), add r2 w2 = add r' w' → Exj f H' H2 → H2 f = some (.lst (ls r2)) → r2.length ≤ 1000 + 1 → (w2 ≠ 0 → r2.length < r'.length) → 
          ∃ (r2' : List Int) (w2' : Int) (mid' : Option V), [some (.ref f), some (.int w), some (.int w2), mid] = [some (V.ref f), some (.int w), some (.int w2'), mid'] ∧ add r2' w2' = add r w ∧ Exj f H H2 ∧ H2 f = some (.lst (ls r2')) ∧ r2'.length ≤ 1000 + 1 ∧ (w2' ≠ 0 → r2'.length ≤ 1000) ∧ (if w2' = 0 then 0 else r2'.length + 1) < r'.length + 1 :=
        fun r2 w2 mid H2 h1 h2 h3 h4 h5 => ⟨r2, w2, mid, rfl, h1.trans ea, ex.trans h2, h3, h4, fun q => by have := h5 q; omega, by
          split
          · omega
          · rename_i q
            have := h5 q
            omega⟩
      -- form != []
      refine ⟨_, rfl, Nat.zero_le _, fun p1 H1 n1 e1 h1 => ?_⟩
      have hf1 : H1 f = some (.lst (ls r')) := e1 _ _ hf'
      have ex1 : Exj f H' H1 := Exj.of e1
      refine neI_ (xs := r'.reverse) (ys := []) (sqI hf1) (sqI h1) ⟨_, rfl, ?_⟩
      cases r' with
      | nil =>
        refine ifF (by simp) ?_
        refine iteF ?_
        refine ⟨_, rfl, _, _, rfl, .inl (sqI hf1), _, _, rfl, rfl, _, rfl, ?_⟩
        refine ifF (by simp) ?_
        refine iteF ?_
        refine ⟨_, rfl, .inl ⟨rfl, _, sqI hf1⟩, _, rfl, _, _, _, rfl, rfl, hf1, (by decide), ?_⟩
        refine fin [w'] 0 mid _ ?_ ex1.upd upd_same (by simp) (fun q => absurd rfl q)
        rw [add_zero, add_nil hw]
      | cons a r'' =>
        rw [ls_cons] at hf1
        refine ifT (by simp) ?_
        refine ⟨_, rfl, _, rfl, _, _, _, _, rfl, rfl, sqI hf1, atI_last _ _, _, _, rfl, rfl, _, rfl, _, _, rfl, rfl, rfl, _, rfl, ?_⟩
        have es : decide (V.bl (decide (0 < a)) = V.bl (decide (0 < w'))) = decide (decide (a > 0) = decide (w' > 0)) := by
          rw [decide_eq_decide]
          exact ⟨fun q => V.bl.inj q, fun q => congrArg V.bl q⟩
        refine ifB (fun c1 => ?_) (fun c1 => ?_)
        · -- waiting = waiting + form.pop()
          have c2 := of_decide_eq_true (es.symm.trans c1)
          refine ⟨_, rfl, _, rfl, .inl ⟨rfl, _, sqI hf1⟩, _, _, _, rfl, rfl, hf1, lastG _ _, _, _, rfl, rfl, ?_⟩
          refine fin r'' (w' + a) mid _ (add_same hw c2).symm ex1.upd ?_ (by simp at hl1; omega) (fun _ => by simp)
          rw [upd_same, List.dropLast_concat]
        · have c2 := of_decide_eq_false (es.symm.trans c1)
          refine ⟨_, rfl, _, _, rfl, .inl (sqI hf1), _, _, rfl, rfl, _, rfl, ?_⟩
          cases r'' with
          | nil =>
            refine ifF (by simp) ?_
            refine iteF ?_
            refine ⟨_, rfl, .inl ⟨rfl, _, sqI hf1⟩, _, rfl, _, _, _, rfl, rfl, hf1, (by show 1 < sizeLine; decide), ?_⟩
            refine fin [w', a] 0 mid _ ?_ ex1.upd upd_same (by simp) (fun q => absurd rfl q)
            rw [add_zero, add_one hw c2]
          | cons p r3 =>
            refine ifT (by simp; omega) ?_
            refine ⟨_, rfl, _, rfl, _, rfl, _, rfl, _, _, _, _, rfl, rfl, sqI hf1, atI_last _ _, _, rfl, _, _, rfl, rfl, _, rfl, ?_⟩
            refine ifB (fun c3 => ?_) (fun c3 => ?_)
            · have c4 : ab a ≤ ab w' := of_decide_eq_true c3
              -- middle = form.pop()
              refine ⟨_, rfl, .inl ⟨rfl, _, sqI hf1⟩, _, _, _, rfl, rfl, hf1, lastG _ _, ?_⟩
              have hf2 : upd H1 f (.lst (ls (p :: r3) ++ [V.int a]).dropLast) f = some (.lst (ls r3 ++ [V.int p])) := by rw [upd_same, List.dropLast_concat, ls_cons]
              have ex2 : Exj f H' (upd H1 f (.lst (ls (p :: r3) ++ [V.int a]).dropLast)) := ex1.upd
              refine ⟨_, rfl, _, rfl, _, rfl, _, rfl, _, _, _, _, rfl, rfl, sqI hf2, atI_last _ _, _, rfl, _, _, rfl, rfl, _, rfl, ?_⟩
              refine ifB (fun c5 => ?_) (fun c5 => ?_)
              · have c6 : ab a ≤ ab p := of_decide_eq_true c5
                refine ⟨_, rfl, _, rfl, _, _, rfl, rfl, _, rfl, .inl ⟨rfl, _, sqI hf2⟩, _, _, _, rfl, rfl, hf2, lastG _ _, _, _, rfl, rfl, ?_⟩
                refine fin r3 (w' + a + p) _ _ (add_mid hw c2 c4 c6).symm ex2.upd ?_ (by simp at hl1; omega) (fun _ => by simp; omega)
                rw [upd_same, List.dropLast_concat]
              · have c6 : ¬ ab a ≤ ab p := of_decide_eq_false c5
                refine ⟨_, rfl, _, rfl, _, _, _, _, rfl, rfl, sqI hf2, atI_last _ _, _, rfl, _, _, rfl, rfl, _, rfl, _, rfl, _, _, _, _, rfl, rfl, hf2, lastI _ _, ?_⟩
                refine fin ((p + a) :: r3) w' _ _ (add_low hw c2 c4 c6).symm ex2.upd ?_ (by simp at hl1 ⊢; omega) (fun _ => by simp)
                rw [upd_same, lastS, ls_cons]
            · have c4 : ¬ ab a ≤ ab w' := of_decide_eq_false c3
              refine ⟨_, rfl, .inl ⟨rfl, _, sqI hf1⟩, _, rfl, _, _, _, rfl, rfl, hf1, ?_, ?_⟩
              · have : (ls (p :: r3) ++ [V.int a]).length = r3.length + 2 := by simp
                rw [this]
                simp at hl3
                exact Nat.lt_of_le_of_lt (show r3.length + 2 ≤ 1002 by omega) (by decide)
              · refine fin (w' :: a :: p :: r3) 0 mid _ ?_ ex1.upd ?_ (by simp at hl3 ⊢; omega) (fun q => absurd rfl q)
                · rw [add_zero, add_top hw c2 c4]
                · rw [upd_same, ls_cons w', ls_cons a]
    · -- the end
      have hw : w' = 0 := by
        simp at c
        exact c
      rw [hw, add_zero] at ea
      rw [ea] at hf'
      exact k H' ex hf'
theorem ok_form_in (T : Txt K mg) : FnOk P w K mg base CX0 2 T.a_form_in T.d_form_in ["turns"] (sp_form_in K) := by
  refine T.f_form_in.ok sc_form_in (fun vs H Q E h => ?_) (fun cdv A outer s H vs Q E hr h => ?_)
  · obtain ⟨a, ts, rfl, _⟩ := h
    rfl
  · obtain ⟨a, ts, rfl, hs, hl, k⟩ := h
    refine ⟨_, (pss_cons (ps_set (i := 1) sc_form_in.nd rfl (by first | exact Or.inl rfl | exact Or.inr rfl) (pe_lstG pa_nil)) (pss_cons (ps_for PassesOwn.never rfl (pi_list (pv 0)) (pg_name (i := 2) sc_form_in.nd rfl (by first | exact Or.inl rfl | exact Or.inr rfl)) (pss_one (ps_expr (pe_call (ok_add_turn T) (hr.mono (by decide)) (by rfl) T.g_add_turn T.f_add_turn.kp (b_add_turn T) .nil pass0 (pa_cons (pv 1) (pa_cons (pv 2) pa_nil)))))) (pss_one (ps_ret (pv 1))))), ?_⟩
    -- found = []
    refine ⟨Nat.zero_le _, fun p1 H1 n1 e1 h1 => ?_⟩
    have ha1 : SqL K H1 a (ts.map V.int) := Evl.ex_l e1 hs
    -- what is known of turns stays: H itself
    refine ⟨_, rfl, a, rfl, ⟨_, ha1⟩, for_list (K := K) (a := a) (xs := ts.map V.int) (fun i σ H' => ∃ v, σ = [some (.ref a), some (.ref p1), v] ∧ Ex H H' ∧ H' p1 = some (.lst (ls (stk (ts.take i)))))
      ⟨_, rfl, e1, h1⟩ (fun i σ H' _ ⟨_, _, e, _⟩ => Evl.ex_l e hs) ?_ ?_⟩
    · rintro i x σ H' hi ⟨v, rfl, e, hp⟩
      obtain ⟨t, ht, rfl⟩ := mapI_get hi
      have hi' : i < ts.length := (List.getElem?_eq_some_iff.mp ht).1
      refine ⟨_, rfl, _, rfl, p1, stk (ts.take i), t, rfl, hp, ?_, fun H2 e2 h2 => ⟨_, rfl, fun b o hb => e2 b o (ne_of_none hb n1) (e b o hb), ?_⟩⟩
      · have := fold_len (ts.take i) []
        have h3 : (ts.take i).length ≤ ts.length := List.length_take_le' _ _
        unfold stk
        simp at this
        omega
      · rw [take_next ht, stk_app]
        exact h2
    · rintro σ H' ⟨v, rfl, e, hp⟩
      refine ⟨_, rfl, ?_⟩
      refine k p1 H' n1 e ?_
      rw [List.length_map, List.take_of_length_le (Nat.le_refl _)] at hp
      exact hp
theorem ok_turns_alike (T : Txt K mg) : FnOk P w K mg base CX0 3 T.a_turns_alike T.d_turns_alike ["one", "other"] (sp_turns_alike K) := by
  refine T.f_turns_alike.ok sc_turns_alike (fun vs H Q E h => ?_) (fun cdv A outer s H vs Q E hr h => ?_)
  · obtain ⟨a, b, ts, us, rfl, _⟩ := h
    rfl
  · obtain ⟨a, b, ts, us, rfl, hs, hu, hl, hm, k⟩ := h
    refine ⟨_, (pss_one (ps_ret (pe_cmpR (op_eqD hr.units) (pe_call (ok_form_in T) (hr.mono (by decide)) (by rfl) T.g_form_in T.f_form_in.kp (b_form_in T) .nil pass0 (pa_cons (pv 0) pa_nil)) (pe_call (ok_form_in T) (hr.mono (by decide)) (by rfl) T.g_form_in T.f_form_in.kp (b_form_in T) .nil pass0 (pa_cons (pv 1) pa_nil)) (nomark _)))), ?_⟩
    refine ⟨_, rfl, a, ts, rfl, hs, hl, fun p H1 n1 e1 h1 => ?_⟩
    refine ⟨_, rfl, b, us, rfl, Evl.ex_l e1 hu, hm, fun q H2 n2 e2 h2 => ?_⟩
    exact eqI_ (sqI (e2 _ _ h1)) (sqI h2) (k H2 (e1.trans e2))
end
end K38
set_option Elab.async false
set_option pp.maxSteps 1200
set_option linter.all false
set_option maxRecDepth 100000
set_option maxHeartbeats 4000000
namespace K38
open PySem L2 My
def sp__law_led (K : PySem.W.Frag) : Sp := fun vs H Q _ => ∃ (S x : Int) (a : Addr) (ts : List Int), vs = [.int S, .ref a, .int x] ∧ SqL K H a (ts.map V.int) ∧ Q (.int (led S ts x)) H
/-- what a form is, spot by spot -/
theorem dn_ix : ∀ (r : List Int) (a : Int), Dn a r → ∀ (i : Nat) (x y : Int), (a :: r)[i]? = some x → r[i]? = some y → opp x y ∧ ab y < ab x
  | [], _, _, i, _, _, _, h => by simp at h
  | b :: r, a, h, 0, x, y, h1, h2 => by
    have e1 : a = x := Option.some.inj h1
    have e2 : b = y := Option.some.inj h2
    subst e1
    subst e2
    exact ⟨h.1, h.2.1⟩
  | b :: r, a, h, i + 1, x, y, h1, h2 => dn_ix r b h.2.2 i x y h1 h2
theorem form_ix {f : List Int} (h : Form f) : ∀ (i : Nat) (y : Int), f[i]? = some y → y ≠ 0 ∧ ∀ (j : Nat) (x : Int), i = j + 1 → f[j]? = some x → opp x y ∧ (0 < j → ab y < ab x) := by
  match f, h with
  | [], _ => intro i y q; simp at q
  | [a], h =>
    intro i y q
    cases i with
    | zero =>
      have e : a = y := Option.some.inj q
      subst e
      exact ⟨h, fun j x e _ => by omega⟩
    | succ i => simp at q
  | a :: b :: r, ⟨ho, hd⟩ =>
    intro i y q
    cases i with
    | zero =>
      have e : a = y := Option.some.inj q
      subst e
      exact ⟨by rcases ho with z | z <;> omega, fun j x e _ => by omega⟩
    | succ i =>
      cases i with
      | zero =>
        have e : b = y := Option.some.inj q
        subst e
        refine ⟨by rcases ho with z | z <;> omega, fun j x e1 e2 => ?_⟩
        have hj : j = 0 := by omega
        subst hj
        have e : a = x := Option.some.inj e2
        subst e
        exact ⟨ho, fun z => by omega⟩
      | succ i =>
        have q' : r[i]? = some y := q
        have hi : i < r.length := (List.getElem?_eq_some_iff.mp q').1
        have hx : ∃ x, (b :: r)[i]? = some x := ⟨_, List.getElem?_eq_getElem (by simp; omega)⟩
        obtain ⟨x, hx⟩ := hx
        have z := dn_ix r b hd i x y hx q'
        refine ⟨by rcases z.1 with w | w <;> omega, fun j x' e1 e2 => ?_⟩
        have hj : j = i + 1 := by omega
        subst hj
        have e3 : (b :: r)[i]? = some x' := e2
        rw [hx] at e3
        cases e3
        exact ⟨z.1, fun _ => z.2⟩
section
variable {P : Program} {w : World} {K : PySem.W.Frag} {mg : Str → Option Value} {base : Heap}
theorem ok__law_led (T : Txt K mg) : FnOk P w K mg base CX0 1 T.a__law_led T.d__law_led ["_law_size", "_law_turns_here", "_law_scroll"] (sp__law_led K) := by
  refine T.f__law_led.ok sc__law_led (fun vs H Q E h => ?_) (fun cdv A outer s H vs Q E hr h => ?_)
  · obtain ⟨S, x, a, ts, rfl, _⟩ := h
    rfl
  · obtain ⟨S, x, a, ts, rfl, hs, k⟩ := h
    refine ⟨_, (pss_cons (ps_for PassesOwn.never rfl (pi_list (pv 1)) (pg_name (i := 3) sc__law_led.nd rfl (by first | exact Or.inl rfl | exact Or.inr rfl)) (pss_one (ps_set (i := 2) sc__law_led.nd rfl (by first | exact Or.inl rfl | exact Or.inr rfl) (pe_callB (call_max2 rfl) (by rfl) T.z_max (by decide +kernel) (pa_cons pe_int (pa_cons (pe_callB (call_min2 rfl) (by rfl) T.z_min (by decide +kernel) (pa_cons (pv 0) (pa_cons (pe_op op_add (pv 2) (pv 3)) pa_nil))) pa_nil)))))) (pss_one (ps_ret (pv 2)))), ?_⟩
    refine ⟨_, rfl, a, rfl, ⟨_, hs⟩, for_list (K := K) (a := a) (xs := ts.map V.int) (fun i σ H' => ∃ v, σ = [some (.int S), some (.ref a), some (.int (led S (ts.take i) x)), v] ∧ H' = H)
      ⟨_, rfl, rfl⟩ (fun i σ H' _ ⟨_, _, e⟩ => by rw [e]; exact hs) ?_ ?_⟩
    · rintro i y σ H' hi ⟨v, rfl, rfl⟩
      obtain ⟨t, ht, rfl⟩ := mapI_get hi
      refine ⟨_, rfl, _, rfl, _, rfl, _, _, rfl, rfl, _, _, rfl, _, _, rfl, ?_⟩
      refine ⟨some (.int t), ?_, rfl⟩
      rw [take_next ht, led_app]
      rfl
    · rintro σ H' ⟨v, rfl, rfl⟩
      refine ⟨_, rfl, ?_⟩
      rw [List.length_map, List.take_of_length_le (Nat.le_refl _)]
      exact k
end
end K38
set_option Elab.async false
set_option pp.maxSteps 1200
set_option linter.all false
set_option maxRecDepth 100000
set_option maxHeartbeats 4000000
namespace K38
open PySem L2 My
abbrev li (l : List Int) : List V := l.map V.int
abbrev t3 (e : Eff) : List V := [.int e.1, .int e.2.1, .int e.2.2]
def CellR (H : Hp) (v : V) (c : Cell) : Prop := ∃ q, v = .ref q ∧ H q = some (.tup [.int c.1, .int c.2.1, .bl c.2.2])
theorem CellR.ex {H H' : Hp} {v : V} {c : Cell} (e : Ex H H') : CellR H v c → CellR H' v c
  | ⟨q, a, h⟩ => ⟨q, a, e _ _ h⟩
theorem CellR.exj {H H' : Hp} {D : Addr} {xs : List V} {v : V} {c : Cell} (e : Exj D H H') (hD : H D = some (.lst xs)) : CellR H v c → CellR H' v c
  | ⟨q, a, h⟩ => ⟨q, a, e _ _ (fun z => by rw [z, hD] at h; cases h) h⟩
def eC (c : Cell) : PyData := .tuple [.int c.1, .int c.2.1, .bool c.2.2]
theorem goodC : Good eC 1 := ⟨fun c => rfl, fun c => Nat.le_refl _, fun c d => by
  show (PyData.eqv (.int c.1) (.int d.1) && (PyData.eqv (.int c.2.1) (.int d.2.1) && (PyData.eqv (.bool c.2.2) (.bool d.2.2) && true))) = decide (c = d)
  rw [goodI.eqv, goodI.eqv, goodB.eqv, Bool.eq_iff_iff]
  obtain ⟨c1, c2, c3⟩ := c
  obtain ⟨d1, d2, d3⟩ := d
  simp⟩
theorem CellR.dp {K : PySem.W.Frag} {H : Hp} {v : V} {c : Cell} : CellR H v c → Dp K H v (eC c)
  | ⟨q, a, h⟩ => by
    subst a
    exact .tup (sqT h) (.cons (.int _) (.cons (.int _) (.cons (.bl _) .nil)))
theorem dec_int (u v : Int) : decide (V.int u = V.int v) = decide (u = v) := by
  rw [decide_eq_decide]
  simp
theorem nef {a b : V} (h : a = b) : (!decide (a = b)) = false := by
  rw [decide_eq_true h]
  rfl
def sp_between : Sp := fun vs H Q _ => ∃ n g : Int, vs = [.int n, .int 0, .int g] ∧ Q (.int (cl g n)) H
def sp_effect_from : Sp := fun vs H Q _ => ∃ s l h : Int, vs = [.int s, .int l, .int h] ∧ New (.tup (t3 (if l < h then s else 0, l, h))) H Q
def sp_effect_in (K : PySem.W.Frag) : Sp := fun vs H Q _ => ∃ (size : Int) (a : Addr) (ts : List Int), vs = [.int size, .ref a] ∧ SqL K H a (li ts) ∧ New (.tup (t3 (eff size ts))) H Q
def sp_cells_of (K : PySem.W.Frag) : Sp := fun vs H Q _ => ∃ (a : Addr) (f : List Int), vs = [.ref a] ∧ SqL K H a (li f) ∧ f.length ≤ 500 ∧ ∀ p H' us, H p = none → Ex H H' → H' p = some (.lst us) → AllR (CellR H') us (cellsR f.reverse 0) → us.length ≤ 500 → Q (.ref p) H'
def sp_last_cell : Sp := fun vs H Q _ => ∃ (a : Addr) (us : List V) (cs : List Cell), vs = [.ref a] ∧ H a = some (.lst us) ∧ AllR (CellR H) us cs ∧ Evl.RetV (.int (lastR 0 cs)) H Q
def sp_is_down_at : Sp := fun vs H Q _ => ∃ (a : Addr) (us : List V) (cs : List Cell) (p : Int), vs = [.ref a, .int p] ∧ H a = some (.lst us) ∧ AllR (CellR H) us cs ∧ us.length ≤ 500 ∧ Evl.RetV (.bl (downAt cs p)) H Q
theorem lastR_snoc (d : Int) : ∀ (cs : List Cell) (c : Cell), lastR d (cs ++ [c]) = c.2.1
  | [], c => rfl
  | x :: cs, c => lastR_snoc x.2.1 cs c
theorem eff_fold (S : Int) : ∀ (ts : List Int) (l h : Int), ts.foldl (fun (p : Int × Int) t => (cl S (p.1 + t), cl S (p.2 + t))) (l, h) = (led S ts l, led S ts h)
  | [], _, _ => rfl
  | t :: ts, l, h => eff_fold S ts (cl S (l + t)) (cl S (h + t))
section
variable {w : World} {K : PySem.W.Frag} {mg : Str → Option Value} {base : Heap}
theorem ok_between (T : Txt K mg) : FnOk PR w K mg base CX0 1 T.a_between T.d_between ["number", "least", "greatest"] sp_between := by
  refine T.f_between.ok sc_between (fun vs H Q E h => ?_) (fun cdv A outer s H vs Q E hr h => ?_)
  · obtain ⟨n, g, rfl, _⟩ := h
    rfl
  · obtain ⟨n, g, rfl, k⟩ := h
    refine ⟨_, (pss_one (ps_ret (pe_callB (call_max2 rfl) (by rfl) T.z_max (by decide +kernel) (pa_cons (pv 1) (pa_cons (pe_callB (call_min2 rfl) (by rfl) T.z_min (by decide +kernel) (pa_cons (pv 2) (pa_cons (pv 0) pa_nil))) pa_nil))))), ?_⟩
    exact ⟨_, rfl, _, rfl, _, rfl, _, _, rfl, _, _, rfl, k⟩
theorem ok_effect_from (T : Txt K mg) : FnOk PR w K mg base CX0 1 T.a_effect_from T.d_effect_from ["shift", "low", "high"] sp_effect_from := by
  refine T.f_effect_from.ok sc_effect_from (fun vs H Q E h => ?_) (fun cdv A outer s H vs Q E hr h => ?_)
  · obtain ⟨s, l, h', rfl, _⟩ := h
    rfl
  · obtain ⟨s, l, h', rfl, k⟩ := h
    refine ⟨_, (pss_one (ps_ret (pe_tupG (pa_cons (pe_cut (pe_ifExp (pt_cmpR op_lt (pv 1) (pv 2) (nomark _)) (pv 0) pe_int)) (pa_cons (pv 1) (pa_cons (pv 2) pa_nil)))))), ?_⟩
    refine ⟨fun v H' => H' = H ∧ v = .int (if l < h' then s else 0), ?_, ?_⟩
    · refine ⟨_, rfl, _, rfl, _, _, rfl, rfl, _, rfl, ?_⟩
      refine ifB (fun c => ?_) (fun c => ?_)
      · exact ⟨_, rfl, rfl, by rw [if_pos (of_decide_eq_true c)]⟩
      · exact ⟨rfl, by rw [if_neg (of_decide_eq_false c)]⟩
    · rintro v H' ⟨rfl, rfl⟩
      exact ⟨_, rfl, _, rfl, (by show 3 ≤ sizeLine; decide), fun p H1 n1 e1 h1 => k p H1 n1 e1 h1⟩
theorem ok_effect_in (T : Txt K mg) : FnOk PR w K mg base CX0 2 T.a_effect_in T.d_effect_in ["size", "turns"] (sp_effect_in K) := by
  refine T.f_effect_in.ok sc_effect_in (fun vs H Q E h => ?_) (fun cdv A outer s H vs Q E hr h => ?_)
  · obtain ⟨size, a, ts, rfl, _⟩ := h
    rfl
  · obtain ⟨size, a, ts, rfl, ha, k⟩ := h
    refine ⟨_, (pss_cons (ps_par (by rfl) sc_effect_in.nd rfl rfl (by decide) rfl rfl (i := 2) (j := 3) (pa_cons pe_int (pa_cons (pv 0) pa_nil)) (by rfl)) (pss_cons (ps_for PassesOwn.never rfl (pi_list (pv 1)) (pg_name (i := 4) sc_effect_in.nd rfl (by first | exact Or.inl rfl | exact Or.inr rfl)) (pss_one (ps_par (by rfl) sc_effect_in.nd rfl rfl (by decide) rfl rfl (i := 2) (j := 3) (pa_cons (pe_call (ok_between T) (hr.mono (by decide)) (by rfl) T.g_between T.f_between.kp (b_between T) .nil pass0 (pa_cons (pe_op op_add (pv 2) (pv 4)) (pa_cons pe_int (pa_cons (pv 0) pa_nil)))) (pa_cons (pe_call (ok_between T) (hr.mono (by decide)) (by rfl) T.g_between T.f_between.kp (b_between T) .nil pass0 (pa_cons (pe_op op_add (pv 3) (pv 4)) (pa_cons pe_int (pa_cons (pv 0) pa_nil)))) pa_nil)) (by rfl)))) (pss_one (ps_ret (pe_call (ok_effect_from T) (hr.mono (by decide)) (by rfl) T.g_effect_from T.f_effect_from.kp (b_effect_from T) .nil pass0 (pa_cons (pe_callB (cr_sum rfl) (by rfl) T.z_sum (by decide +kernel) (pa_cons (pv 1) pa_nil)) (pa_cons (pv 2) (pa_cons (pv 3) pa_nil)))))))), ?_⟩
    refine ⟨_, rfl, _, _, rfl, ?_⟩
    refine ⟨_, rfl, a, rfl, ⟨_, ha⟩, for_list (K := K) (a := a) (xs := li ts) (fun i σ H' => ∃ v, σ = [some (.int size), some (.ref a), some (.int (led size (ts.take i) 0)), some (.int (led size (ts.take i) size)), v] ∧ H = H') ⟨_, rfl, rfl⟩ (fun i σ H' _ ⟨_, _, e⟩ => by rw [← e]; exact ha) ?_ ?_⟩
    · rintro i x σ H' hi ⟨v, rfl, rfl⟩
      obtain ⟨t, ht, rfl⟩ := mapI_get hi
      rw [take_next ht, led_app, led_app]
      refine ⟨_, rfl, _, rfl, _, _, rfl, rfl, _, rfl, _, _, rfl, ?_⟩
      refine ⟨_, rfl, _, rfl, _, _, rfl, rfl, _, rfl, _, _, rfl, ?_⟩
      exact ⟨_, _, rfl, _, rfl, rfl⟩
    · rintro σ H' ⟨v, rfl, rfl⟩
      rw [show (li ts).length = ts.length from List.length_map _, List.take_length]
      refine ⟨_, rfl, a, ts, rfl, ha, ?_⟩
      refine ⟨_, rfl, _, rfl, _, _, _, rfl, fun p H1 n1 e1 h1 => ?_⟩
      exact k p H1 n1 e1 h1
theorem ok_cells_of (T : Txt K mg) : FnOk PR w K mg base CX0 1 T.a_cells_of T.d_cells_of ["form"] (sp_cells_of K) := by
  refine T.f_cells_of.ok sc_cells_of (fun vs H Q E h => ?_) (fun cdv A outer s H vs Q E hr h => ?_)
  · obtain ⟨a, f, rfl, _⟩ := h
    rfl
  · obtain ⟨a, f, rfl, ha, hl, k⟩ := h
    refine ⟨_, (pss_cons (ps_par (by rfl) sc_cells_of.nd rfl rfl (by decide) rfl rfl (i := 1) (j := 2) (pa_cons (pe_lstG pa_nil) (pa_cons pe_int pa_nil)) (by rfl)) (pss_cons (ps_for PassesOwn.never rfl (pi_list (pe_revG (pv 0))) (pg_name (i := 3) sc_cells_of.nd rfl (by first | exact Or.inl rfl | exact Or.inr rfl)) (pss_one (ps_if (pt_cmpR op_gt (pe_callB call_abs (by rfl) T.z_abs (by decide +kernel) (pa_cons (pv 3) pa_nil)) (pv 2) (nomark _)) (pss_cons (ps_expr (pe_bm PySem.F.plainAttrs_list PySem.F.slot_list_append PySem.F.type_list_append mt_append (pv 1) (pa_cons (pe_tupG (pa_cons (pe_op op_add (pv 2) pe_int) (pa_cons (pe_callB call_abs (by rfl) T.z_abs (by decide +kernel) (pa_cons (pv 3) pa_nil)) (pa_cons (pe_cmpR op_gt (pv 3) pe_int (nomark _)) pa_nil)))) pa_nil))) (pss_one (ps_set (i := 2) sc_cells_of.nd rfl (by first | exact Or.inl rfl | exact Or.inr rfl) (pe_callB call_abs (by rfl) T.z_abs (by decide +kernel) (pa_cons (pv 3) pa_nil))))) pss_nil))) (pss_one (ps_ret (pv 1))))), ?_⟩
    refine ⟨(by show 0 ≤ sizeLine; decide), fun F H1 n1 e1 h1 => ?_⟩
    refine ⟨_, _, rfl, ?_⟩
    refine ⟨_, rfl, a, _, rfl, Evl.ex_l e1 ha, fun R H2 n2 e2 h2 => ?_⟩
    have h2 : H2 R = some (.lst (li f.reverse)) := by
      rw [h2]
      unfold li
      rw [List.map_reverse]
    have rl : f.reverse.length ≤ 500 := by rw [List.length_reverse]; exact hl
    generalize f.reverse = r at h2 k rl
    have RF : R ≠ F := (ne_of_none h1 n2).symm
    refine ⟨R, rfl, ⟨_, sqI h2⟩, for_list (K := K) (a := R) (xs := li r) (fun i σ H' => ∃ (us : List V) (acc : List Cell) (g : Int) (v : Option V), σ = [some (.ref a), some (.ref F), some (.int g), v] ∧ Ex H H' ∧ H' R = some (.lst (li r)) ∧ H' F = some (.lst us) ∧ AllR (CellR H') us acc ∧ us.length ≤ i ∧ acc ++ cellsR (r.drop i) g = cellsR r 0) ⟨[], [], 0, _, rfl, e1.trans e2, h2, e2 _ _ h1, AllR.nil, Nat.le_refl _, rfl⟩ (fun i σ H' _ ⟨_, _, _, _, _, _, h, _⟩ => sqI h) ?_ ?_⟩
    · rintro i x σ H3 hi ⟨us, acc, g, v, rfl, e3, hR, hF, aF, lF, eF⟩
      obtain ⟨t, ht, rfl⟩ := mapI_get hi
      have ir : i < r.length := (List.getElem?_eq_some_iff.mp ht).1
      have ed : r.drop i = t :: r.drop (i + 1) := by
        rw [List.drop_eq_getElem_cons ir]
        congr 1
        exact (List.getElem?_eq_some_iff.mp ht).2
      rw [ed] at eF
      have eF : acc ++ (if ab t > g then (g + 1, ab t, decide (t > 0)) :: cellsR (r.drop (i + 1)) (ab t) else cellsR (r.drop (i + 1)) g) = cellsR r 0 := eF
      refine ⟨_, rfl, _, rfl, _, rfl, _, _, rfl, rfl, _, rfl, ?_⟩
      refine ifB (fun c => ?_) (fun c => ?_)
      · have c' : ab t > g := of_decide_eq_true c
        rw [if_pos c'] at eF
        refine ⟨_, rfl, .inl ⟨rfl, _, sqI hF⟩, _, rfl, _, _, rfl, rfl, _, rfl, _, rfl, _, rfl, _, _, rfl, rfl, (by show 3 ≤ sizeLine; decide), fun p H4 n4 e4 h4 => ?_⟩
        have hF4 := e4 _ _ hF
        refine ⟨_, _, _, rfl, rfl, hF4, Nat.lt_of_le_of_lt (show us.length ≤ 500 by omega) (by decide), ?_⟩
        have ej : Exj F H4 (upd H4 F (.lst (us ++ [.ref p]))) := (Exj.refl _ _).upd
        refine ⟨_, rfl, _, rfl, us ++ [.ref p], acc ++ [(g + 1, ab t, decide (t > 0))], ab t, _, rfl, Evl.Ex.mut (e3.trans e4) n1, ?_, upd_same, ?_, by rw [List.length_append]; show us.length + 1 ≤ i + 1; omega, ?_⟩
        · rw [upd_ne RF]
          exact e4 _ _ hR
        · exact AllR.snoc (aF.mono fun v x z => (z.ex e4).exj ej hF4) (CellR.exj ej hF4 ⟨p, rfl, h4⟩)
        · rw [List.append_assoc]
          exact eF
      · have c' : ¬ ab t > g := of_decide_eq_false c
        rw [if_neg c'] at eF
        exact ⟨us, acc, g, _, rfl, e3, hR, hF, aF, by omega, eF⟩
    · rintro σ H3 ⟨us, acc, g, v, rfl, e3, hR, hF, aF, lF, eF⟩
      rw [show (li r).length = r.length from List.length_map _, List.drop_length] at eF
      have eF : acc ++ [] = cellsR r 0 := eF
      rw [List.append_nil] at eF
      rw [eF] at aF
      have lF : us.length ≤ (li r).length := lF
      rw [List.length_map] at lF
      exact ⟨_, rfl, k F H3 us n1 e3 hF aF (by omega)⟩
theorem ok_last_cell (T : Txt K mg) : FnOk PR w K mg base CX0 1 T.a_last_cell T.d_last_cell ["cells"] sp_last_cell := by
  refine T.f_last_cell.ok sc_last_cell (fun vs H Q E h => ?_) (fun cdv A outer s H vs Q E hr h => ?_)
  · obtain ⟨a, us, cs, rfl, _⟩ := h
    rfl
  · obtain ⟨a, us, cs, rfl, ha, aR, k⟩ := h
    refine ⟨_, (pss_one (ps_ret (pe_cut (pe_ifExp (pt_cmpR (op_neD hr.units) (pv 0) (pe_lstG pa_nil) (nomark _)) (pe_ix ix_tup (pe_ix ix_list (pv 0) (pe_un un_neg pe_int) (fun _ _ => rfl)) pe_int (fun _ _ => rfl)) pe_int)))), ?_⟩
    refine ⟨fun v H' => Ex H H' ∧ v = .int (lastR 0 cs), ?_, ?_⟩
    · refine ⟨_, rfl, (by show 0 ≤ sizeLine; decide), fun p1 H1 n1 e1 h1 => ?_⟩
      refine neE (goodL goodC) (by decide) (x := cs) (y := []) (.lst (sqI (e1 _ _ ha)) (AllR.dp aR fun v x z => (z.ex e1).dp)) (.lst (sqI h1) .nil) ⟨_, rfl, ?_⟩
      rcases List.eq_nil_or_concat cs with z | ⟨cs', c, z⟩
      · subst z
        refine ifF (by simp) ?_
        exact ⟨e1, rfl⟩
      · rw [List.concat_eq_append] at z
        subst z
        refine ifT (by simp) ?_
        have hx : (cs' ++ [c])[cs'.length]? = some c := by simp
        obtain ⟨v, hv, q, rfl, hq⟩ := aR.row hx
        have ul : us.length = cs'.length + 1 := by
          rw [aR.1]
          simp
        have hat : atI us (-1) = some (.ref q) := by
          rcases List.eq_nil_or_concat us with y | ⟨us', u, y⟩
          · rw [y] at ul
            simp at ul
          · rw [List.concat_eq_append] at y
            subst y
            have : us'.length = cs'.length := by simpa using ul
            rw [← this] at hv
            have : u = .ref q := by simpa using hv
            rw [this]
            exact atI_last _ _
        refine ⟨_, rfl, _, rfl, _, _, _, _, rfl, rfl, sqI (e1 _ _ ha), hat, _, _, _, _, rfl, rfl, sqT (e1 _ _ hq), at1, ?_⟩
        refine ⟨e1, ?_⟩
        rw [lastR_snoc]
    · rintro v H' ⟨e, rfl⟩
      exact k H' e
theorem ok_is_down_at (T : Txt K mg) : FnOk PR w K mg base CX0 1 T.a_is_down_at T.d_is_down_at ["cells", "place"] sp_is_down_at := by
  refine T.f_is_down_at.ok sc_is_down_at (fun vs H Q E h => ?_) (fun cdv A outer s H vs Q E hr h => ?_)
  · obtain ⟨a, us, cs, p, rfl, _⟩ := h
    rfl
  · obtain ⟨a, us, cs, p, rfl, ha, aR, hl, k⟩ := h
    refine ⟨_, (pss_one (ps_ret (pe_cmpR (op_eqD hr.units) (pe_lc (own := [("first", 2), ("last", 3), ("is_down", 4)]) (g := (gTup K 3 (gCons (gName 2) (gCons (gName 3) (gCons (gName 4) gNil))))) (by rfl) sc_is_down_at.nd (pi_list (pv 0)) (blkOk_by (own := [("first", 2), ("last", 3), ("is_down", 4)]) (N := ["cells", "place", "first", "last", "is_down"]) (sc := (defScope s_is_down_at)) (by decide +kernel)) (fun _ _ _ _ _ => (pg_tup rfl (pgs_cons (pg_name (i := 2) sc_is_down_at.nd rfl (by first | exact Or.inl rfl | exact Or.inr rfl)) (pgs_cons (pg_name (i := 3) sc_is_down_at.nd rfl (by first | exact Or.inl rfl | exact Or.inr rfl)) (pgs_cons (pg_name (i := 4) sc_is_down_at.nd rfl (by first | exact Or.inl rfl | exact Or.inr rfl)) pgs_nil))))) (fun _ _ _ _ _ => (pts_one (pt_chain op_le op_le (pv 2) (pv 1) (pv 3)))) (fun _ _ _ _ _ => (pv 4))) (pe_lstG (pa_cons pe_bl pa_nil)) (nomark _)))), ?_⟩
    refine ⟨_, rfl, a, rfl, ⟨_, sqI ha⟩, fun D nD => lc_it (walk_list (K := K) (a := a) (xs := us)) (fun i H' => ∃ bs : List V, bs = (((cs.take i).filter fun c => decide (c.1 ≤ p ∧ p ≤ c.2.1)).map fun c => c.2.2).map V.bl ∧ Ex H H' ∧ H' D = some (.lst bs) ∧ bs.length ≤ i) ⟨[], rfl, Evl.Ex.new nD, upd_same, Nat.le_refl _⟩ (fun i H' _ ⟨_, _, e, _⟩ => sqI (e _ _ ha)) ?_ ?_⟩
    · rintro i x HX H3 hi ⟨bs, eb, e3, d3, l3⟩ ⟨rfl, hv⟩
      obtain ⟨c, hc, q, rfl, hq⟩ := aR.get hv
      have hq3 := e3 _ _ hq
      refine ⟨_, _, rfl, sqT hq3, rfl, _, _, rfl, _, _, rfl, _, _, rfl, rfl, rfl, ?_⟩
      show _
      rw [take_snoc hc, List.filter_append, List.map_append, List.map_append, ← eb]
      have yes : c.1 ≤ p ∧ p ≤ c.2.1 → List.filter (fun c : Cell => decide (c.1 ≤ p ∧ p ≤ c.2.1)) [c] = [c] := fun z => by
        rw [List.filter_cons, if_pos (decide_eq_true z)]
        rfl
      have no : ¬ (c.1 ≤ p ∧ p ≤ c.2.1) → List.filter (fun c : Cell => decide (c.1 ≤ p ∧ p ≤ c.2.1)) [c] = [] := fun z => by
        rw [List.filter_cons, if_neg (by rw [decide_eq_false z]; simp)]
        rfl
      refine ⟨_, rfl, _, rfl, _, _, rfl, rfl, _, rfl, ?_⟩
      refine ifB (fun f => ?_) (fun f => ?_)
      · have f' : c.1 ≤ p := of_decide_eq_true f
        refine ⟨_, rfl, _, _, rfl, rfl, _, rfl, ?_⟩
        refine ifB (fun g => ?_) (fun g => ?_)
        · have g' : p ≤ c.2.1 := of_decide_eq_true g
          rw [yes ⟨f', g'⟩]
          refine ⟨_, rfl, bs, d3, Nat.lt_of_le_of_lt (show bs.length ≤ 500 by omega) (by decide), bs ++ [.bl c.2.2], rfl, Evl.Ex.mut e3 nD, upd_same, by rw [List.length_append]; show bs.length + 1 ≤ i + 1; omega⟩
        · have g' : ¬ p ≤ c.2.1 := of_decide_eq_false g
          rw [no (fun z => g' z.2)]
          exact ⟨bs, by simp, e3, d3, by omega⟩
      · have f' : ¬ c.1 ≤ p := of_decide_eq_false f
        refine ⟨_, rfl, ?_⟩
        refine ifF rfl ?_
        rw [no (fun z => f' z.1)]
        exact ⟨bs, by simp, e3, d3, by omega⟩
    · rintro H3 ⟨bs, eb, e3, d3, l3⟩
      rw [aR.1, List.take_length] at eb
      refine ⟨(by show 1 ≤ sizeLine; decide), fun p4 H4 n4 e4 h4 => ?_⟩
      refine eqE (goodL goodB) (by decide) (x := (cs.filter fun c => decide (c.1 ≤ p ∧ p ≤ c.2.1)).map fun c => c.2.2) (y := [true]) (.lst (sqI (e4 _ _ d3)) ?_) (.lst (sqI h4) (.cons (.bl _) .nil)) ?_
      · rw [eb]
        generalize (cs.filter fun c => decide (c.1 ≤ p ∧ p ≤ c.2.1)).map (fun c => c.2.2) = l
        induction l with
        | nil => exact .nil
        | cons b l ih => exact .cons (.bl b) ih
      · exact k H4 (e3.trans e4)
end
end K38
set_option Elab.async false
set_option maxRecDepth 100000
set_option maxHeartbeats 4000000
set_option linter.all false
/-! K38: the first place is among the first places of cells. -/
namespace K38
def firsts (f : List Int) : List Int := (cellsR f.reverse 0).map (·.1)
def mnE (f g : List Int) : Int := if gr g < gr f then gr g else gr f
theorem mnE_c (f g : List Int) : mnE f g ≤ gr f ∧ mnE f g ≤ gr g ∧ (if gr f < gr g then gr f else gr g) = mnE f g := by
  unfold mnE
  split <;> split <;> omega
theorem firsts_same {f g : List Int} {p : Int} (h : ∀ q, (q ∈ firsts f ∨ q ∈ firsts g) → 1 ≤ q → q < p → q ≤ mnE f g → dir f q = dir g q) (hp : p ≤ mnE f g + 1) : ∀ n : Nat, (n : Int) < p → 1 ≤ n → dir f n = dir g n
  | 0, _, z => by omega
  | n + 1, h1, _ => by
    obtain ⟨m1, m2, _⟩ := mnE_c f g
    by_cases c : ((n + 1 : Nat) : Int) ∈ firsts f ∨ ((n + 1 : Nat) : Int) ∈ firsts g
    · exact h _ c (by omega) h1 (by omega)
    · have nf : ∀ c' ∈ cellsR f.reverse 0, c'.1 ≠ ((n + 1 : Nat) : Int) := fun c' hc z => c (.inl (List.mem_map.mpr ⟨c', hc, z⟩))
      have ng : ∀ c' ∈ cellsR g.reverse 0, c'.1 ≠ ((n + 1 : Nat) : Int) := fun c' hc z => c (.inr (List.mem_map.mpr ⟨c', hc, z⟩))
      obtain ⟨t, ht, hs⟩ := gr_at (f := f) (S := ((n + 1 : Nat) : Int)) (by omega) (by omega)
      obtain ⟨u, hu, hv⟩ := gr_at (f := g) (S := ((n + 1 : Nat) : Int)) (by omega) (by omega)
      obtain ⟨a1, a2⟩ := cells_first f.reverse 0 ((n + 1 : Nat) : Int) (by omega) ⟨t, List.mem_reverse.mpr ht, hs⟩ nf
      obtain ⟨b1, b2⟩ := cells_first g.reverse 0 ((n + 1 : Nat) : Int) (by omega) ⟨u, List.mem_reverse.mpr hu, hv⟩ ng
      have e : ((n + 1 : Nat) : Int) - 1 = (n : Int) := by omega
      rw [e] at a2 b2
      have ih := firsts_same h hp n (by omega) (by omega)
      show dirR f.reverse _ = dirR g.reverse _
      rw [a2, b2]
      exact ih
theorem isS_at {f g : List Int} {p : Int} (h1 : 1 ≤ p) (h2 : p ≤ mnE f g) (hd : dir f p ≠ dir g p) (h : ∀ q, (q ∈ firsts f ∨ q ∈ firsts g) → 1 ≤ q → q < p → q ≤ mnE f g → dir f q = dir g q) : IsS f g p := by
  obtain ⟨m1, m2, m3⟩ := mnE_c f g
  unfold IsS
  rw [m3]
  refine ⟨h1, by omega, fun q q1 q2 => ?_, fun _ => hd⟩
  have := firsts_same h (by omega) q.toNat (by omega) (by omega)
  rw [show ((q.toNat : Nat) : Int) = q by omega] at this
  exact this
theorem isS_end {f g : List Int} (h : ∀ q, (q ∈ firsts f ∨ q ∈ firsts g) → 1 ≤ q → q ≤ mnE f g → dir f q = dir g q) : IsS f g (mnE f g + 1) := by
  obtain ⟨m1, m2, m3⟩ := mnE_c f g
  have g0 := gr_nn f
  have g1 := gr_nn g
  have m0 : 0 ≤ mnE f g := by
    unfold mnE
    split <;> omega
  unfold IsS
  rw [m3]
  refine ⟨by omega, Int.le_refl _, fun q q1 q2 => ?_, fun z => by omega⟩
  have := firsts_same (f := f) (g := g) (p := mnE f g + 1) (fun q a b _ d => h q a b d) (Int.le_refl _) q.toNat (by omega) (by omega)
  rw [show ((q.toNat : Nat) : Int) = q by omega] at this
  exact this
theorem firsts_pos : ∀ (r : List Int) (g : Int), 0 ≤ g → ∀ c ∈ cellsR r g, 1 ≤ c.1
  | [], _, _, c, h => by cases h
  | t :: r, g, h, c, hc => by
    have hc : c ∈ (if ab t > g then (g + 1, ab t, decide (t > 0)) :: cellsR r (ab t) else cellsR r g) := hc
    split at hc
    · rcases List.mem_cons.mp hc with z | z
      · rw [z]
        show 1 ≤ g + 1
        omega
      · exact firsts_pos r (ab t) (ab_nn t) c z
    · exact firsts_pos r g h c hc
end K38
set_option Elab.async false
set_option pp.maxSteps 1200
set_option linter.all false
set_option maxRecDepth 100000
set_option maxHeartbeats 4000000
namespace K38
open PySem L2 My
def sp_size_apart (K : PySem.W.Frag) : Sp := fun vs H Q _ => ∃ (a b : Addr) (f g : List Int), vs = [.ref a, .ref b] ∧ SqL K H a (li f) ∧ SqL K H b (li g) ∧ f.length ≤ 500 ∧ g.length ≤ 500 ∧ Form f ∧ Form g ∧ ∀ s H', Ex H H' → IsS f g s → Q (.int s) H'
def sp_rise_of (K : PySem.W.Frag) : Sp := fun vs H Q _ => ∃ (size : Int) (a : Addr) (e : Eff), vs = [.int size, .ref a] ∧ SqT K H a (t3 e) ∧ Q (.int (riseOf size e)) H
def sp_scroll_apart (K : PySem.W.Frag) : Sp := fun vs H Q _ => ∃ (size : Int) (a b : Addr) (e f : Eff), vs = [.int size, .ref a, .ref b] ∧ SqT K H a (t3 e) ∧ SqT K H b (t3 f) ∧ Q (.int (scrA size e f)) H
/-- what room_apart tells -/
def RaIs (ts us : List Int) (o : Option (Int × Int)) : Prop := (o = none ∧ form ts = form us) ∨ ∃ s x, o = some (s, x) ∧ form ts ≠ form us ∧ FirstDiff ts us s x ∧ IsS (form ts) (form us) s
def IsAp (H : Hp) (v : V) : Option (Int × Int) → Prop
  | none => v = .non
  | some x => ∃ p, v = .ref p ∧ H p = some (.tup [.int x.1, .int x.2])
theorem IsAp.ex {H H' : Hp} {v : V} (e : Ex H H') : ∀ {o : Option (Int × Int)}, IsAp H v o → IsAp H' v o
  | none, h => h
  | some _, ⟨p, a, h⟩ => ⟨p, a, e _ _ h⟩
def sp_room_apart (K : PySem.W.Frag) : Sp := fun vs H Q _ => ∃ (a b : Addr) (ts us : List Int), vs = [.ref a, .ref b] ∧ SqL K H a (li ts) ∧ SqL K H b (li us) ∧ ts.length ≤ 500 ∧ us.length ≤ 500 ∧ ∀ o v H', RaIs ts us o → Ex H H' → IsAp H' v o → Q v H'
def sp_swing (K : PySem.W.Frag) : Sp := fun vs H Q _ => ∃ (a : Addr) (ts : List Int), vs = [.ref a] ∧ SqL K H a (li ts) ∧ New (.tup [.int (sw ts).1, .int (sw ts).2.1]) H Q
def sp_place_in (K : PySem.W.Frag) : Sp := fun vs H Q _ => ∃ (a : Addr) (ts : List Int) (S : Int), vs = [.ref a, .int S] ∧ SqL K H a (li ts) ∧ Q (.int (lw ts S)) H
def sp_least_size (K : PySem.W.Frag) : Sp := fun vs H Q _ => ∃ (a : Addr) (ts : List Int) (k E : Int), vs = [.ref a, .int k, .int E] ∧ SqL K H a (li (form ts)) ∧ 0 ≤ E ∧ k ≤ lw ts E ∧ ∀ m, IsLeast ts k m → m ≤ E → Q (.int m) H
def IsRm (H : Hp) (v : V) : Option (Int × Option Int) → Prop
  | none => v = .non
  | some (m, none) => ∃ p, v = .ref p ∧ H p = some (.tup [.int m, .non])
  | some (m, some n) => ∃ p, v = .ref p ∧ H p = some (.tup [.int m, .int n])
def sp_rooms_for (K : PySem.W.Frag) (C : Addr) : Sp := fun vs H Q E => ∃ (a : Addr) (ts : List Int) (k : Int), vs = [.ref a, .int k] ∧ SqL K H a (li ts) ∧ ts.length ≤ 500 ∧ (0 ≤ k → ∀ o v H', RoomsIs ts k o → Ex H H' → IsRm H' v o → Q v H') ∧ (k < 0 → Raised C (.int k) H E)
section
variable {w : World} {K : PySem.W.Frag} {mg : Str → Option Value} {base : Heap}
theorem ok_size_apart (T : Txt K mg) : FnOk PR w K mg base CX0 2 T.a_size_apart T.d_size_apart ["one", "other"] (sp_size_apart K) := by
  refine T.f_size_apart.ok sc_size_apart (fun vs H Q E h => ?_) (fun cdv A outer s H vs Q E hr h => ?_)
  · obtain ⟨a, b, f, g, rfl, _⟩ := h
    rfl
  · obtain ⟨a, b, f, g, rfl, ha, hb, lf, lg, hf, hg, k⟩ := h
    refine ⟨_, (pss_cons (ps_par (by rfl) sc_size_apart.nd rfl rfl (by decide) rfl rfl (i := 2) (j := 3) (pa_cons (pe_call (ok_cells_of T) (hr.mono (by decide)) (by rfl) T.g_cells_of T.f_cells_of.kp (b_cells_of T) .nil pass0 (pa_cons (pv 0) pa_nil)) (pa_cons (pe_call (ok_cells_of T) (hr.mono (by decide)) (by rfl) T.g_cells_of T.f_cells_of.kp (b_cells_of T) .nil pass0 (pa_cons (pv 1) pa_nil)) pa_nil)) (by rfl)) (pss_cons (ps_set (i := 4) sc_size_apart.nd rfl (by first | exact Or.inl rfl | exact Or.inr rfl) (pe_callB (call_min2 rfl) (by rfl) T.z_min (by decide +kernel) (pa_cons (pe_call (ok_last_cell T) (hr.mono (by decide)) (by rfl) T.g_last_cell T.f_last_cell.kp (b_last_cell T) .nil pass0 (pa_cons (pv 2) pa_nil)) (pa_cons (pe_call (ok_last_cell T) (hr.mono (by decide)) (by rfl) T.g_last_cell T.f_last_cell.kp (b_last_cell T) .nil pass0 (pa_cons (pv 3) pa_nil)) pa_nil)))) (pss_cons (ps_for PassesOwn.never rfl (pi_list (pe_callB cr_sortedG (by rfl) T.z_sorted (by decide +kernel) (pa_cons (pe_lc (own := [("cell", 6)]) (g := gName 6) (by rfl) sc_size_apart.nd (pi_list (pe_op op_catG (pv 2) (pv 3))) (blkOk_by (own := [("cell", 6)]) (N := ["one", "other", "first", "second", "end", "place", "cell"]) (sc := (defScope s_size_apart)) (by decide +kernel)) (fun _ _ _ _ _ => (pg_name (i := 6) sc_size_apart.nd rfl (by first | exact Or.inl rfl | exact Or.inr rfl))) (fun _ _ _ _ _ => pts_nil) (fun _ _ _ _ _ => (pe_ix (ixK (r := rIxT) (K := K) (by rfl) ix_tup) (pv 6) pe_int (fun _ _ => rfl)))) pa_nil))) (pg_name (i := 5) sc_size_apart.nd rfl (by first | exact Or.inl rfl | exact Or.inr rfl)) (pss_one (ps_if (PW.pt (pw_and (pt_cmpR op_le (pv 5) (pv 4) (nomark _)) (pw_and1 (pt_cmpR op_ne (pe_call (ok_is_down_at T) (hr.mono (by decide)) (by rfl) T.g_is_down_at T.f_is_down_at.kp (b_is_down_at T) .nil pass0 (pa_cons (pv 2) (pa_cons (pv 5) pa_nil))) (pe_call (ok_is_down_at T) (hr.mono (by decide)) (by rfl) T.g_is_down_at T.f_is_down_at.kp (b_is_down_at T) .nil pass0 (pa_cons (pv 3) (pa_cons (pv 5) pa_nil))) (nomark _))))) (pss_one (ps_ret (pv 5))) pss_nil))) (pss_one (ps_ret (pe_op op_add (pv 4) pe_int)))))), ?_⟩
    refine ⟨_, rfl, a, f, rfl, ha, lf, fun p1 H1 us n1 e1 h1 a1 l1 => ?_⟩
    refine ⟨_, rfl, b, g, rfl, Evl.ex_l e1 hb, lg, fun p2 H2 vs n2 e2 h2 a2 l2 => ?_⟩
    refine ⟨_, _, rfl, ?_⟩
    have h1' := e2 _ _ h1
    have a1' := a1.mono fun v x z => z.ex e2
    refine ⟨_, rfl, p1, us, _, rfl, h1', a1', fun H3 e3 => ?_⟩
    refine ⟨_, rfl, p2, vs, _, rfl, e3 _ _ h2, a2.mono fun v x z => z.ex e3, fun H4 e4 => ?_⟩
    refine ⟨_, _, rfl, ?_⟩
    have e24 := e3.trans e4
    have h14 := e24 _ _ h1'
    have h24 := e24 _ _ h2
    have a14 := a1'.mono fun v x z => z.ex e24
    have a24 := a2.mono fun v x z => z.ex e24
    rw [last_gr hf, last_gr hg]
    have em : (if gr g < gr f then gr g else gr f) = mnE f g := rfl
    rw [em]
    refine ⟨_, rfl, _, rfl, _, _, _, _, rfl, rfl, h14, h24, ?_, fun p5 H5 n5 e5 h5 => ?_⟩
    · exact Nat.le_trans (show us.length + vs.length ≤ 1000 by omega) (by decide)
    have h15 := e5 _ _ h14
    have h25 := e5 _ _ h24
    have a15 := a14.mono fun v x z => z.ex e5
    have a25 := a24.mono fun v x z => z.ex e5
    have a5 : AllR (CellR H5) (us ++ vs) (cellsR f.reverse 0 ++ cellsR g.reverse 0) := AllR.append a15 a25
    have e05 := e1.trans (e2.trans (e24.trans e5))
    refine ⟨p5, rfl, ⟨_, sqI h5⟩, fun D nD => lc_mapL (K := K) (a := p5) (xs := us ++ vs) (ys := li ((cellsR f.reverse 0 ++ cellsR g.reverse 0).map (·.1))) (sqI h5) nD (by rw [List.length_map, List.length_map, a5.1]) ?_ (fun x => rfl) ?_ ?_⟩
    · rw [List.length_append]
      exact Nat.le_trans (show us.length + vs.length ≤ 1000 by omega) (by decide)
    · intro i x y H' e' hx hy R kR
      obtain ⟨c, hc, q, rfl, hq⟩ := a5.get hx
      rw [li, List.map_map, List.getElem?_map, hc] at hy
      cases hy
      exact ⟨_, rfl, _, _, _, _, rfl, rfl, sqT (e' _ _ hq), at0, kR H' (Evl.Ex.refl _)⟩
    intro H6 e6 d6
    refine ⟨D, (cellsR f.reverse 0 ++ cellsR g.reverse 0).map (·.1), rfl, sqI d6, fun ns hp hs p7 H7 n7 e7 h7 => ?_⟩
    have hmem : ∀ q, q ∈ ns ↔ (q ∈ firsts f ∨ q ∈ firsts g) := fun q => by
      rw [hp.mem_iff, List.map_append, List.mem_append]
      rfl
    have e57 := e6.trans e7
    have e07 := e05.trans e57
    have h17 := e57 _ _ h15
    have h27 := e57 _ _ h25
    have a17 := a15.mono fun v x z => z.ex e57
    have a27 := a25.mono fun v x z => z.ex e57
    refine ⟨p7, rfl, ⟨_, sqI h7⟩, for_list (K := K) (a := p7) (xs := li ns) (fun i σ H' => ∃ v, σ = [some (.ref a), some (.ref b), some (.ref p1), some (.ref p2), some (.int (mnE f g)), v, none] ∧ Ex H7 H' ∧ ∀ q ∈ ns.take i, q ≤ mnE f g → dir f q = dir g q) ⟨_, rfl, Evl.Ex.refl _, fun q h => by simp at h⟩ (fun i σ H' _ ⟨_, _, e, _⟩ => sqI (e _ _ h7)) ?_ ?_⟩
    · rintro i x σ H8 hi ⟨v, rfl, e8, hq⟩
      obtain ⟨p, hpi, rfl⟩ := mapI_get hi
      have pm := List.mem_of_getElem? hpi
      have p1' : 1 ≤ p := by
        rcases (hmem p).mp pm with z | z
        · obtain ⟨c, hc, rfl⟩ := List.mem_map.mp z
          exact firsts_pos _ 0 (Int.le_refl _) c hc
        · obtain ⟨c, hc, rfl⟩ := List.mem_map.mp z
          exact firsts_pos _ 0 (Int.le_refl _) c hc
      have next : ∀ H', Ex H8 H' → (p ≤ mnE f g → dir f p = dir g p) → ∃ v, [some (V.ref a), some (.ref b), some (.ref p1), some (.ref p2), some (.int (mnE f g)), some (.int p), none] = [some (V.ref a), some (.ref b), some (.ref p1), some (.ref p2), some (.int (mnE f g)), v, none] ∧ Ex H7 H' ∧ ∀ q ∈ ns.take (i + 1), q ≤ mnE f g → dir f q = dir g q := fun H' e z => ⟨_, rfl, e8.trans e, fun q hq' => by
        rw [take_next hpi] at hq'
        rcases List.mem_append.mp hq' with y | y
        · exact hq q y
        · rw [List.mem_singleton.mp y]
          exact z⟩
      refine ⟨_, rfl, _, rfl, _, _, rfl, rfl, _, rfl, ?_⟩
      refine ifB (fun c => ?_) (fun c => ?_)
      · have c' : p ≤ mnE f g := of_decide_eq_true c
        refine ⟨_, rfl, _, rfl, p1, us, _, p, rfl, e8 _ _ h17, a17.mono fun v x z => z.ex e8, l1, fun H9 e9 => ?_⟩
        refine ⟨_, rfl, _, rfl, p2, vs, _, p, rfl, (e8.trans e9) _ _ h27, a27.mono fun v x z => z.ex (e8.trans e9), l2, fun H10 e10 => ?_⟩
        rw [down_dir f p1', down_dir g p1']
        refine ⟨rfl, _, rfl, ?_⟩
        have eb : decide (V.bl (dir f p) = V.bl (dir g p)) = decide (dir f p = dir g p) := by
          rw [decide_eq_decide]
          simp
        rw [eb]
        refine ifB (fun d => ?_) (fun d => ?_)
        · have d' : dir f p ≠ dir g p := by simpa using d
          refine ⟨_, rfl, k p H10 (e07.trans (e8.trans (e9.trans e10))) (isS_at p1' c' d' fun q hq' q1 q2 q3 => ?_)⟩
          refine hq q ?_ q3
          -- q stands ahead of p
          obtain ⟨j, hj⟩ := List.getElem?_of_mem ((hmem q).mpr hq')
          have ji : j < i := by
            by_cases z : j < i
            · exact z
            · have jl := (List.getElem?_eq_some_iff.mp hj).1
              have il := (List.getElem?_eq_some_iff.mp hpi).1
              rcases Nat.lt_or_eq_of_le (Nat.le_of_not_lt z) with y | y
              · have := List.pairwise_iff_getElem.mp hs i j il jl y
                have e1 := (List.getElem?_eq_some_iff.mp hj).2
                have e2 := (List.getElem?_eq_some_iff.mp hpi).2
                omega
              · subst y
                rw [hpi] at hj
                cases hj
                omega
          exact List.mem_of_getElem? (by rw [List.getElem?_take, if_pos ji]; exact hj)
        · have d' : dir f p = dir g p := by simpa using d
          exact next H10 (e9.trans e10) fun _ => d'
      · have c' : ¬ p ≤ mnE f g := of_decide_eq_false c
        exact next H8 (Evl.Ex.refl _) fun z => absurd z c'
    · rintro σ H8 ⟨v, rfl, e8, hq⟩
      rw [show (li ns).length = ns.length from List.length_map _, List.take_length] at hq
      refine ⟨_, rfl, _, _, rfl, rfl, ?_⟩
      exact k _ H8 (e07.trans e8) (isS_end fun q hq' _ q3 => hq q ((hmem q).mpr hq') q3)
theorem ok_rise_of (T : Txt K mg) : FnOk PR w K mg base CX0 1 T.a_rise_of T.d_rise_of ["size", "effect"] (sp_rise_of K) := by
  refine T.f_rise_of.ok sc_rise_of (fun vs H Q E h => ?_) (fun cdv A outer s H vs Q E hr h => ?_)
  · obtain ⟨size, a, e, rfl, _⟩ := h
    rfl
  · obtain ⟨size, a, ⟨s, l, u⟩, rfl, ha, k⟩ := h
    refine ⟨_, (pss_cons (ps_asg (pv 1) (pg_tup rfl (pgs_cons (pg_name (i := 2) sc_rise_of.nd rfl (by first | exact Or.inl rfl | exact Or.inr rfl)) (pgs_cons (pg_name (i := 3) sc_rise_of.nd rfl (by first | exact Or.inl rfl | exact Or.inr rfl)) (pgs_cons (pg_name (i := 4) sc_rise_of.nd rfl (by first | exact Or.inl rfl | exact Or.inr rfl)) pgs_nil))))) (pss_one (ps_ret (pe_cut (pe_ifExp (pt_cmpR op_lt (pv 3) (pv 4) (nomark _)) (pe_op op_sub (pv 3) (pv 2)) (pv 0)))))), ?_⟩
    refine ⟨_, rfl, _, _, rfl, ha, rfl, _, _, rfl, _, _, rfl, _, _, rfl, rfl, ?_⟩
    refine ⟨fun v H' => H = H' ∧ v = .int (riseOf size (s, l, u)), ?_, ?_⟩
    · refine ⟨_, rfl, _, rfl, _, _, rfl, rfl, _, rfl, ?_⟩
      refine ifB (fun c => ?_) (fun c => ?_)
      · refine ⟨_, rfl, _, rfl, _, _, rfl, rfl, rfl, ?_⟩
        unfold riseOf
        rw [if_pos (of_decide_eq_true c)]
      · refine ⟨_, rfl, rfl, ?_⟩
        unfold riseOf
        rw [if_neg (of_decide_eq_false c)]
    · rintro v H' ⟨rfl, rfl⟩
      exact k
theorem ok_scroll_apart (T : Txt K mg) : FnOk PR w K mg base CX0 2 T.a_scroll_apart T.d_scroll_apart ["size", "one", "other"] (sp_scroll_apart K) := by
  refine T.f_scroll_apart.ok sc_scroll_apart (fun vs H Q E h => ?_) (fun cdv A outer s H vs Q E hr h => ?_)
  · obtain ⟨size, a, b, e, f, rfl, _⟩ := h
    rfl
  · obtain ⟨size, a, b, e, f, rfl, ha, hb, k⟩ := h
    refine ⟨_, (pss_cons (ps_if (pt_cmpR op_ne (pe_ix ix_tup (pv 1) pe_int (fun _ _ => rfl)) (pe_ix ix_tup (pv 2) pe_int (fun _ _ => rfl)) (nomark _)) (pss_one (ps_ret pe_int)) pss_nil) (pss_cons (ps_par (by rfl) sc_scroll_apart.nd rfl rfl (by decide) rfl rfl (i := 3) (j := 4) (pa_cons (pe_call (ok_rise_of T) (hr.mono (by decide)) (by rfl) T.g_rise_of T.f_rise_of.kp (b_rise_of T) .nil pass0 (pa_cons (pv 0) (pa_cons (pv 1) pa_nil))) (pa_cons (pe_call (ok_rise_of T) (hr.mono (by decide)) (by rfl) T.g_rise_of T.f_rise_of.kp (b_rise_of T) .nil pass0 (pa_cons (pv 0) (pa_cons (pv 2) pa_nil))) pa_nil)) (by rfl)) (pss_cons (ps_if (pt_cmpR op_ne (pv 3) (pv 4) (nomark _)) (pss_one (ps_ret (pe_op op_add (pe_callB (call_min2 rfl) (by rfl) T.z_min (by decide +kernel) (pa_cons (pv 3) (pa_cons (pv 4) pa_nil))) pe_int))) pss_nil) (pss_one (ps_ret (pe_op op_add (pe_op op_sub (pe_callB (call_min2 rfl) (by rfl) T.z_min (by decide +kernel) (pa_cons (pe_ix ix_tup (pv 1) pe_int (fun _ _ => rfl)) (pa_cons (pe_ix ix_tup (pv 2) pe_int (fun _ _ => rfl)) pa_nil))) (pe_ix ix_tup (pv 1) pe_int (fun _ _ => rfl))) pe_int)))))), ?_⟩
    refine ⟨_, rfl, _, _, _, _, rfl, rfl, ha, at1, _, rfl, _, _, _, _, rfl, rfl, hb, at1, rfl, _, rfl, ?_⟩
    rw [dec_int]
    unfold scrA at k
    refine ifB (fun c => ?_) (fun c => ?_)
    · have c' : e.2.1 ≠ f.2.1 := by simpa using c
      rw [if_pos c'] at k
      exact k
    have c' : ¬ e.2.1 ≠ f.2.1 := by simpa using c
    rw [if_neg c'] at k
    refine ⟨_, rfl, _, rfl, size, a, e, rfl, ha, ?_⟩
    refine ⟨_, rfl, _, rfl, size, b, f, rfl, hb, ?_⟩
    refine ⟨_, _, rfl, ?_⟩
    refine ⟨_, rfl, _, rfl, rfl, _, rfl, ?_⟩
    rw [dec_int]
    refine ifB (fun d => ?_) (fun d => ?_)
    · have d' : riseOf size e ≠ riseOf size f := by simpa using d
      rw [if_pos d'] at k
      exact ⟨_, rfl, _, rfl, _, _, rfl, _, _, rfl, rfl, k⟩
    · have d' : ¬ riseOf size e ≠ riseOf size f := by simpa using d
      rw [if_neg d'] at k
      exact ⟨_, rfl, _, _, _, _, rfl, rfl, ha, at2, _, rfl, _, _, _, _, rfl, rfl, hb, at2, _, _, rfl, _, rfl, _, _, _, _, rfl, rfl, ha, at0, _, _, rfl, rfl, _, _, rfl, rfl, k⟩
theorem ok_room_apart (T : Txt K mg) : FnOk PR w K mg base CX0 3 T.a_room_apart T.d_room_apart ["one", "other"] (sp_room_apart K) := by
  refine T.f_room_apart.ok sc_room_apart (fun vs H Q E h => ?_) (fun cdv A outer s H vs Q E hr h => ?_)
  · obtain ⟨a, b, ts, us, rfl, _⟩ := h
    rfl
  · obtain ⟨a, b, ts, us, rfl, ha, hb, la, lb, k⟩ := h
    refine ⟨_, (pss_cons (ps_par (by rfl) sc_room_apart.nd rfl rfl (by decide) rfl rfl (i := 2) (j := 3) (pa_cons (pe_call (ok_form_in T) (hr.mono (by decide)) (by rfl) T.g_form_in T.f_form_in.kp (b_form_in T) .nil pass0 (pa_cons (pv 0) pa_nil)) (pa_cons (pe_call (ok_form_in T) (hr.mono (by decide)) (by rfl) T.g_form_in T.f_form_in.kp (b_form_in T) .nil pass0 (pa_cons (pv 1) pa_nil)) pa_nil)) (by rfl)) (pss_cons (ps_if (pt_cmpR (op_eqD hr.units) (pv 2) (pv 3) (nomark _)) (pss_one (ps_ret pe_non)) pss_nil) (pss_cons (ps_set (i := 4) sc_room_apart.nd rfl (by first | exact Or.inl rfl | exact Or.inr rfl) (pe_call (ok_size_apart T) (hr.mono (by decide)) (by rfl) T.g_size_apart T.f_size_apart.kp (b_size_apart T) .nil pass0 (pa_cons (pv 2) (pa_cons (pv 3) pa_nil)))) (pss_one (ps_ret (pe_tupG (pa_cons (pv 4) (pa_cons (pe_call (ok_scroll_apart T) (hr.mono (by decide)) (by rfl) T.g_scroll_apart T.f_scroll_apart.kp (b_scroll_apart T) .nil pass0 (pa_cons (pv 4) (pa_cons (pe_call (ok_effect_in T) (hr.mono (by decide)) (by rfl) T.g_effect_in T.f_effect_in.kp (b_effect_in T) .nil pass0 (pa_cons (pv 4) (pa_cons (pv 2) pa_nil))) (pa_cons (pe_call (ok_effect_in T) (hr.mono (by decide)) (by rfl) T.g_effect_in T.f_effect_in.kp (b_effect_in T) .nil pass0 (pa_cons (pv 4) (pa_cons (pv 3) pa_nil))) pa_nil)))) pa_nil)))))))), ?_⟩
    refine ⟨_, rfl, a, ts, rfl, ha, la, fun p1 H1 n1 e1 h1 => ?_⟩
    refine ⟨_, rfl, b, us, rfl, Evl.ex_l e1 hb, lb, fun p2 H2 n2 e2 h2 => ?_⟩
    refine ⟨_, _, rfl, ?_⟩
    have h12 := e2 _ _ h1
    refine ⟨_, rfl, _, rfl, eqI_ (sqI h12) (sqI h2) ⟨_, rfl, ?_⟩⟩
    refine ifB (fun c => ?_) (fun c => ?_)
    · exact k none .non H2 (.inl ⟨rfl, of_decide_eq_true c⟩) (e1.trans e2) rfl
    have c' := of_decide_eq_false c
    refine ⟨_, rfl, _, rfl, p1, p2, form ts, form us, rfl, sqI h12, sqI h2, Nat.le_trans (form_len ts) la, Nat.le_trans (form_len us) lb, form_form' ts, form_form' us, fun s H3 e3 hs => ?_⟩
    have fd := first_diff c' hs
    refine ⟨_, rfl, _, rfl, _, rfl, _, rfl, s, p1, form ts, rfl, sqI (e3 _ _ h12), fun p4 H4 n4 e4 h4 => ?_⟩
    refine ⟨_, rfl, _, rfl, s, p2, form us, rfl, sqI ((e3.trans e4) _ _ h2), fun p5 H5 n5 e5 h5 => ?_⟩
    refine ⟨s, p4, p5, _, _, rfl, sqT (e5 _ _ h4), sqT h5, ?_⟩
    refine ⟨(by show 2 ≤ sizeLine; decide), fun p6 H6 n6 e6 h6 => ?_⟩
    have e05 := e1.trans (e2.trans (e3.trans (e4.trans e5)))
    exact k (some (s, _)) (.ref p6) H6 (.inr ⟨s, _, rfl, c', fd, hs⟩) (e05.trans e6) ⟨p6, rfl, h6⟩
theorem ok_swing (T : Txt K mg) : FnOk PR w K mg base CX0 1 T.a_swing T.d_swing ["turns"] (sp_swing K) := by
  refine T.f_swing.ok sc_swing (fun vs H Q E h => ?_) (fun cdv A outer s H vs Q E hr h => ?_)
  · obtain ⟨a, ts, rfl, _⟩ := h
    rfl
  · obtain ⟨a, ts, rfl, ha, k⟩ := h
    refine ⟨_, (pss_cons (ps_asg (pe_tupG (pa_cons pe_int (pa_cons pe_int (pa_cons pe_int pa_nil)))) (pg_tup rfl (pgs_cons (pg_name (i := 1) sc_swing.nd rfl (by first | exact Or.inl rfl | exact Or.inr rfl)) (pgs_cons (pg_name (i := 2) sc_swing.nd rfl (by first | exact Or.inl rfl | exact Or.inr rfl)) (pgs_cons (pg_name (i := 3) sc_swing.nd rfl (by first | exact Or.inl rfl | exact Or.inr rfl)) pgs_nil))))) (pss_cons (ps_for PassesOwn.never rfl (pi_list (pv 0)) (pg_name (i := 4) sc_swing.nd rfl (by first | exact Or.inl rfl | exact Or.inr rfl)) (pss_cons (ps_set (i := 3) sc_swing.nd rfl (by first | exact Or.inl rfl | exact Or.inr rfl) (pe_op op_add (pv 3) (pv 4))) (pss_one (ps_par (by rfl) sc_swing.nd rfl rfl (by decide) rfl rfl (i := 1) (j := 2) (pa_cons (pe_callB (call_min2 rfl) (by rfl) T.z_min (by decide +kernel) (pa_cons (pv 1) (pa_cons (pv 3) pa_nil))) (pa_cons (pe_callB (call_max2 rfl) (by rfl) T.z_max (by decide +kernel) (pa_cons (pv 2) (pa_cons (pv 3) pa_nil))) pa_nil)) (by rfl))))) (pss_one (ps_ret (pe_tupG (pa_cons (pv 1) (pa_cons (pv 2) pa_nil))))))), ?_⟩
    refine ⟨(by show 3 ≤ sizeLine; decide), fun p0 H0 n0 e0 h0 => ?_⟩
    refine ⟨_, _, rfl, sqT h0, rfl, _, _, rfl, _, _, rfl, _, _, rfl, rfl, ?_⟩
    have ha0 := Evl.ex_l e0 ha
    refine ⟨_, rfl, a, rfl, ⟨_, ha0⟩, for_list (K := K) (a := a) (xs := li ts) (fun i σ H' => ∃ v, σ = [some (.ref a), some (.int (swF (0, 0, 0) (ts.take i)).1), some (.int (swF (0, 0, 0) (ts.take i)).2.1), some (.int (swF (0, 0, 0) (ts.take i)).2.2), v] ∧ H0 = H') ⟨_, rfl, rfl⟩ (fun i σ H' _ ⟨_, _, e⟩ => by rw [← e]; exact ha0) ?_ ?_⟩
    · rintro i x σ H' hi ⟨v, rfl, rfl⟩
      obtain ⟨t, ht, rfl⟩ := mapI_get hi
      unfold swF
      rw [take_next ht, List.foldl_append, List.foldl_cons, List.foldl_nil]
      generalize (ts.take i).foldl swStep (0, 0, 0) = P
      refine ⟨_, rfl, _, rfl, _, _, rfl, rfl, ?_⟩
      refine ⟨_, rfl, _, rfl, _, _, rfl, _, rfl, _, rfl, _, _, rfl, _, _, rfl, ?_⟩
      exact ⟨_, rfl, rfl⟩
    · rintro σ H' ⟨v, rfl, rfl⟩
      rw [show (li ts).length = ts.length from List.length_map _, List.take_length]
      refine ⟨_, rfl, _, rfl, (by show 2 ≤ sizeLine; decide), fun p1 H1 n1 e1 h1 => ?_⟩
      exact k p1 H1 (Evl.fresh_back e0 n1) (e0.trans e1) h1
theorem ok_place_in (T : Txt K mg) : FnOk PR w K mg base CX0 2 T.a_place_in T.d_place_in ["form", "size"] (sp_place_in K) := by
  refine T.f_place_in.ok sc_place_in (fun vs H Q E h => ?_) (fun cdv A outer s H vs Q E hr h => ?_)
  · obtain ⟨a, ts, S, rfl, _⟩ := h
    rfl
  · obtain ⟨a, ts, S, rfl, ha, k⟩ := h
    refine ⟨_, (pss_cons (ps_set (i := 2) sc_place_in.nd rfl (by first | exact Or.inl rfl | exact Or.inr rfl) pe_int) (pss_cons (ps_for PassesOwn.never rfl (pi_list (pv 0)) (pg_name (i := 3) sc_place_in.nd rfl (by first | exact Or.inl rfl | exact Or.inr rfl)) (pss_one (ps_set (i := 2) sc_place_in.nd rfl (by first | exact Or.inl rfl | exact Or.inr rfl) (pe_call (ok_between T) (hr.mono (by decide)) (by rfl) T.g_between T.f_between.kp (b_between T) .nil pass0 (pa_cons (pe_op op_add (pv 2) (pv 3)) (pa_cons pe_int (pa_cons (pv 1) pa_nil))))))) (pss_one (ps_ret (pv 2))))), ?_⟩
    refine ⟨_, rfl, a, rfl, ⟨_, ha⟩, for_list (K := K) (a := a) (xs := li ts) (fun i σ H' => ∃ v, σ = [some (.ref a), some (.int S), some (.int (led S (ts.take i) 0)), v] ∧ H = H') ⟨_, rfl, rfl⟩ (fun i σ H' _ ⟨_, _, e⟩ => by rw [← e]; exact ha) ?_ ?_⟩
    · rintro i x σ H' hi ⟨v, rfl, rfl⟩
      obtain ⟨t, ht, rfl⟩ := mapI_get hi
      rw [take_next ht, led_app]
      exact ⟨_, rfl, _, rfl, _, _, rfl, rfl, _, rfl, _, _, rfl, _, rfl, rfl⟩
    · rintro σ H' ⟨v, rfl, rfl⟩
      rw [show (li ts).length = ts.length from List.length_map _, List.take_length]
      exact ⟨_, rfl, k⟩
theorem ok_least_size (T : Txt K mg) : FnOk PR w K mg base CX0 3 T.a_least_size T.d_least_size ["form", "scroll", "end"] (sp_least_size K) := by
  refine T.f_least_size.ok sc_least_size (fun vs H Q E h => ?_) (fun cdv A outer s H vs Q E hr h => ?_)
  · obtain ⟨a, ts, c, E', rfl, _⟩ := h
    rfl
  · obtain ⟨a, ts, c, M, rfl, ha, hM, hk, k⟩ := h
    refine ⟨_, (pss_cons (ps_par (by rfl) sc_least_size.nd rfl rfl (by decide) rfl rfl (i := 3) (j := 4) (pa_cons pe_int (pa_cons (pv 2) pa_nil)) (by rfl)) (pss_cons (ps_while PassesOwn.never (pt_cmpR op_lt (pv 3) (pv 4) (nomark _)) (pss_cons (ps_set (i := 5) sc_least_size.nd rfl (by first | exact Or.inl rfl | exact Or.inr rfl) (pe_op op_fdivW (pe_op op_add (pv 3) (pv 4)) pe_int)) (pss_one (ps_if (pt_cmpR op_ge (pe_call (ok_place_in T) (hr.mono (by decide)) (by rfl) T.g_place_in T.f_place_in.kp (b_place_in T) .nil pass0 (pa_cons (pv 0) (pa_cons (pv 5) pa_nil))) (pv 1) (nomark _)) (pss_one (ps_set (i := 4) sc_least_size.nd rfl (by first | exact Or.inl rfl | exact Or.inr rfl) (pv 5))) (pss_one (ps_set (i := 3) sc_least_size.nd rfl (by first | exact Or.inl rfl | exact Or.inr rfl) (pe_op op_add (pv 5) pe_int))))))) (pss_one (ps_ret (pv 3))))), ?_⟩
    refine ⟨_, rfl, _, _, rfl, ?_⟩
    refine ⟨fun m σ H' => ∃ (lo hi : Int) (v : Option V), σ = [some (.ref a), some (.int c), some (.int M), some (.int lo), some (.int hi), v] ∧ H = H' ∧ 0 ≤ lo ∧ lo ≤ hi ∧ hi ≤ M ∧ c ≤ lw ts hi ∧ (∀ S, 0 ≤ S → S < lo → lw ts S < c) ∧ m = (hi - lo).toNat, ⟨_, 0, M, _, rfl, rfl, Int.le_refl _, hM, Int.le_refl _, hk, fun S a b => by omega, rfl⟩, ?_⟩
    rintro m σ H' ⟨lo, hi, v, rfl, rfl, l0, l1, l2, hhi, hlo, rfl⟩
    refine ⟨_, rfl, _, rfl, _, _, rfl, rfl, _, rfl, ?_⟩
    refine ifB (fun q => ?_) (fun q => ?_)
    · have q' : lo < hi := of_decide_eq_true q
      have m1 : lo ≤ (lo + hi) / 2 ∧ (lo + hi) / 2 < hi := by omega
      refine ⟨fun σ2 H2 => ∃ (lo2 hi2 : Int) (v : Option V), σ2 = [some (.ref a), some (.int c), some (.int M), some (.int lo2), some (.int hi2), v] ∧ H = H2 ∧ 0 ≤ lo2 ∧ lo2 ≤ hi2 ∧ hi2 ≤ M ∧ c ≤ lw ts hi2 ∧ (∀ S, 0 ≤ S → S < lo2 → lw ts S < c) ∧ (hi2 - lo2).toNat < (hi - lo).toNat, fun σ2 H2 ⟨lo2, hi2, v, z1, z2, z3, z4, z5, z6, z7, z8⟩ => ⟨_, z8, lo2, hi2, v, z1, z2, z3, z4, z5, z6, z7, rfl⟩, ?_⟩
      refine ⟨_, rfl, _, rfl, _, _, rfl, rfl, _, _, rfl, rfl, wide_div (b := 10) (by decide) (by decide) (by decide) (by decide), ?_⟩
      have ef : lw (form ts) ((lo + hi) / 2) = lw ts ((lo + hi) / 2) := lw_form ts (by omega)
      refine ⟨_, rfl, _, rfl, a, form ts, (lo + hi) / 2, rfl, ha, ?_⟩
      rw [ef]
      refine ⟨_, rfl, _, _, rfl, rfl, _, rfl, ?_⟩
      refine ifB (fun f => ?_) (fun f => ?_)
      · have f' : c ≤ lw ts ((lo + hi) / 2) := of_decide_eq_true f
        exact ⟨_, rfl, lo, (lo + hi) / 2, _, rfl, rfl, l0, m1.1, by omega, f', hlo, by omega⟩
      · have f' : ¬ c ≤ lw ts ((lo + hi) / 2) := of_decide_eq_false f
        refine ⟨_, rfl, _, _, rfl, rfl, (lo + hi) / 2 + 1, hi, _, rfl, rfl, by omega, by omega, l2, hhi, fun S s0 s1 => ?_, by omega⟩
        have := lw_le ts s0 (show S ≤ (lo + hi) / 2 by omega)
        omega
    · have q' : ¬ lo < hi := of_decide_eq_false q
      have e : lo = hi := by omega
      subst e
      exact ⟨_, rfl, k lo ⟨l0, hhi, hlo⟩ l2⟩
theorem ok_rooms_for (T : Txt K mg) : FnOk PR w K mg base (L2.CX PR w) 4 T.a_rooms_for T.d_rooms_for ["turns", "scroll"] (sp_rooms_for K T.c_InvalidNumber) := by
  refine T.f_rooms_for.okX sc_rooms_for (fun vs H Q E h => ?_) (fun cdv A outer s H vs Q E hr h => ?_)
  · obtain ⟨a, ts, c, rfl, _⟩ := h
    rfl
  · obtain ⟨a, ts, c, rfl, ha, hl, k0, k1⟩ := h
    refine ⟨_, (pss_cons (ps_if (pt_cmpR op_lt (pv 1) pe_int (nomark _)) (pss_one (ps_raise rfl (takes_of rfl rfl rfl rfl) (pmk_err (ok_init T) (b_init T) T.e_InvalidNumber (hr.mono (by decide)) (by rfl) T.g_InvalidNumber (pa_cons (pv 1) pa_nil)))) pss_nil) (pss_cons (ps_set (i := 2) sc_rooms_for.nd rfl (by first | exact Or.inl rfl | exact Or.inr rfl) (pe_call (ok_form_in T) (hr.mono (by decide)) (by rfl) T.g_form_in T.f_form_in.kp (b_form_in T) .nil pass0 (pa_cons (pv 0) pa_nil))) (pss_cons (ps_set (i := 3) sc_rooms_for.nd rfl (by first | exact Or.inl rfl | exact Or.inr rfl) (pe_call (ok_last_cell T) (hr.mono (by decide)) (by rfl) T.g_last_cell T.f_last_cell.kp (b_last_cell T) .nil pass0 (pa_cons (pe_call (ok_cells_of T) (hr.mono (by decide)) (by rfl) T.g_cells_of T.f_cells_of.kp (b_cells_of T) .nil pass0 (pa_cons (pv 2) pa_nil)) pa_nil))) (pss_cons (ps_set (i := 4) sc_rooms_for.nd rfl (by first | exact Or.inl rfl | exact Or.inr rfl) (pe_call (ok_place_in T) (hr.mono (by decide)) (by rfl) T.g_place_in T.f_place_in.kp (b_place_in T) .nil pass0 (pa_cons (pv 2) (pa_cons (pv 3) pa_nil)))) (pss_cons (ps_if (pt_cmpR op_lt (pv 4) (pv 1) (nomark _)) (pss_one (ps_ret pe_non)) pss_nil) (pss_cons (ps_set (i := 5) sc_rooms_for.nd rfl (by first | exact Or.inl rfl | exact Or.inr rfl) (pe_call (ok_least_size T) (hr.mono (by decide)) (by rfl) T.g_least_size T.f_least_size.kp (b_least_size T) .nil pass0 (pa_cons (pv 2) (pa_cons (pv 1) (pa_cons (pv 3) pa_nil))))) (pss_one (ps_ret (pe_tupG (pa_cons (pv 5) (pa_cons (pe_cut (pe_ifExp (pt_cmpR op_eq (pv 4) (pv 1) (nomark _)) pe_non (pe_op op_sub (pe_call (ok_least_size T) (hr.mono (by decide)) (by rfl) T.g_least_size T.f_least_size.kp (b_least_size T) .nil pass0 (pa_cons (pv 2) (pa_cons (pe_op op_add (pv 1) pe_int) (pa_cons (pv 3) pa_nil)))) pe_int))) pa_nil))))))))))), ?_⟩
    refine ⟨_, rfl, _, _, rfl, rfl, _, rfl, ?_⟩
    refine ifB (fun q => ?_) (fun q => ?_)
    · exact ⟨_, rfl, _, rfl, k1 (of_decide_eq_true q)⟩
    have q' : ¬ c < 0 := of_decide_eq_false q
    have k := k0 (by omega)
    refine ⟨_, rfl, a, ts, rfl, ha, hl, fun p1 H1 n1 e1 h1 => ?_⟩
    refine ⟨_, rfl, p1, form ts, rfl, sqI h1, Nat.le_trans (form_len ts) hl, fun p2 H2 us n2 e2 h2 a2 l2 => ?_⟩
    refine ⟨p2, us, _, rfl, h2, a2, fun H3 e3 => ?_⟩
    rw [last_gr (form_form' ts)]
    have eE : gr (form ts) = endOf ts := rfl
    rw [eE]
    have E0 : 0 ≤ endOf ts := gr_nn _
    have e23 := e2.trans e3
    have h13 := e23 _ _ h1
    have e03 := e1.trans e23
    have ef : lw (form ts) (endOf ts) = lw ts (endOf ts) := lw_form ts E0
    refine ⟨_, rfl, _, rfl, p1, form ts, endOf ts, rfl, sqI h13, ?_⟩
    rw [ef]
    refine ⟨_, rfl, _, rfl, _, _, rfl, rfl, _, rfl, ?_⟩
    refine ifB (fun f => ?_) (fun f => ?_)
    · exact k none .non H3 (.inl ⟨rfl, of_decide_eq_true f⟩) e03 rfl
    have f' : ¬ lw ts (endOf ts) < c := of_decide_eq_false f
    refine ⟨_, rfl, _, rfl, _, rfl, p1, ts, c, endOf ts, rfl, sqI h13, E0, by omega, fun m hm me => ?_⟩
    refine ⟨_, rfl, ?_⟩
    refine ⟨fun v H' => H3 = H' ∧ ((lw ts (endOf ts) = c ∧ v = .non) ∨ ∃ n, c < lw ts (endOf ts) ∧ IsLeast ts (c + 1) n ∧ n ≤ endOf ts ∧ v = .int (n - 1)), ?_, ?_⟩
    · refine ⟨_, rfl, _, rfl, rfl, _, rfl, ?_⟩
      rw [dec_int]
      refine ifB (fun g => ?_) (fun g => ?_)
      · exact ⟨rfl, .inl ⟨of_decide_eq_true g, rfl⟩⟩
      · have g' := of_decide_eq_false g
        refine ⟨_, rfl, _, rfl, _, _, rfl, rfl, _, rfl, p1, ts, c + 1, endOf ts, rfl, sqI h13, E0, by omega, fun n hn ne => ?_⟩
        exact ⟨_, _, rfl, rfl, rfl, .inr ⟨n, by omega, hn, ne, rfl⟩⟩
    · rintro v H' ⟨rfl, hv⟩
      refine ⟨(by show 2 ≤ sizeLine; decide), fun p4 H4 n4 e4 h4 => ?_⟩
      rcases hv with ⟨z, rfl⟩ | ⟨n, z, hn, ne, rfl⟩
      · exact k (some (m, none)) _ H4 (.inr (.inl ⟨m, rfl, z, hm, me⟩)) (e03.trans e4) ⟨p4, rfl, h4⟩
      · exact k (some (m, some (n - 1))) _ H4 (.inr (.inr ⟨m, n, rfl, z, hm, hn, ne⟩)) (e03.trans e4) ⟨p4, rfl, h4⟩
end
end K38
set_option Elab.async false
set_option pp.maxSteps 1200
set_option linter.all false
set_option maxRecDepth 100000
set_option maxHeartbeats 4000000
namespace K38
open PySem L2 My
def optE {α : Type} (e : α → PyData) : Option α → PyData
  | none => .none
  | some x => e x
theorem goodOpt {α : Type} [DecidableEq α] {e : α → PyData} {n : Nat} (g : Good e n) (h : ∀ x, PyData.eqv .none (e x) = false ∧ PyData.eqv (e x) .none = false) : Good (optE e) n := ⟨fun x => by
    cases x with
    | none => rfl
    | some x => exact g.lay x, fun x => by
    cases x with
    | none => exact Nat.zero_le _
    | some x => exact g.dep x, fun x y => by
    cases x with
    | none =>
      cases y with
      | none => rfl
      | some y => exact ((h y).1).trans (by simp)
    | some x =>
      cases y with
      | none => exact ((h x).2).trans (by simp)
      | some y =>
        show PyData.eqv (e x) (e y) = _
        rw [g.eqv, Bool.eq_iff_iff]
        simp⟩
theorem goodAp : Good (optE (eP PyData.int PyData.int)) 1 := goodOpt (goodP goodI goodI) fun x => ⟨rfl, rfl⟩
theorem IsAp.dp {K : PySem.W.Frag} {H : Hp} {v : V} : ∀ {o : Option (Int × Int)}, IsAp H v o → Dp K H v (optE (eP PyData.int PyData.int) o)
  | none, h => by
    cases (show v = .non from h)
    exact .non
  | some x, ⟨p, a, h⟩ => by
    subst a
    exact .tup (sqT h) (.cons (.int _) (.cons (.int _) .nil))
theorem neAp {K : PySem.W.Frag} {H : Hp} {v u : V} {o : Option (Int × Int)} {Q : VK} (h1 : IsAp H v o) (h2 : IsAp H u o) (q : Q (.bl false) H) : rNeD K v u H Q := neE goodAp (by decide) h1.dp h2.dp (by rw [decide_eq_true rfl]; exact q)
theorem FirstDiff.symm {ts us : List Int} {s x : Int} : FirstDiff ts us s x → FirstDiff us ts s x
  | ⟨a, b, c, d, e⟩ => ⟨a, b, fun S y y0 y1 hS => (c S y y0 y1 hS).symm, fun y y0 y1 => (d y y0 y1).symm, fun z => e z.symm⟩
theorem RaIs.swap {ts us : List Int} {o o' : Option (Int × Int)} (h : RaIs ts us o) (h' : RaIs us ts o') : o' = o := by
  rcases h with ⟨rfl, h⟩ | ⟨s, x, rfl, h, f, _⟩
  · rcases h' with ⟨rfl, _⟩ | ⟨s', x', rfl, h', _⟩
    · rfl
    · exact absurd h.symm h'
  · rcases h' with ⟨rfl, h'⟩ | ⟨s', x', rfl, h', f', _⟩
    · exact absurd h'.symm h
    · obtain ⟨a, b⟩ := f.uniq f'.symm
      rw [a, b]
def ApIs (ts us : List Int) (m : Int) (o : Option (Int × Int)) : Prop := (o = none ∧ ∀ S x, 0 ≤ x → x ≤ S → S ≤ m → led S ts x = led S us x) ∨ ∃ s x, o = some (s, x) ∧ s ≤ m ∧ FirstDiff ts us s x
theorem sw_bd : ∀ (ts : List Int) (p : Sw) (c : Int), (∀ t ∈ ts, -100 ≤ t ∧ t ≤ 100) → -c ≤ p.1 → p.2.1 ≤ c → -c ≤ p.2.2 → p.2.2 ≤ c → 0 ≤ c → -(c + 100 * ts.length) ≤ (swF p ts).1 ∧ (swF p ts).2.1 ≤ c + 100 * ts.length
  | [], p, c, _, h1, h2, _, _, h0 => by
    show -(c + 100 * ((0 : Nat) : Int)) ≤ p.1 ∧ p.2.1 ≤ c + 100 * ((0 : Nat) : Int)
    omega
  | t :: ts, p, c, h, h1, h2, h3, h4, h0 => by
    have ht := h t List.mem_cons_self
    have c1 := mnI_c p.1 (p.2.2 + t)
    have c2 := mxI_c p.2.1 (p.2.2 + t)
    have e1 : (swStep p t).1 = mnI p.1 (p.2.2 + t) := rfl
    have e2 : (swStep p t).2.1 = mxI p.2.1 (p.2.2 + t) := rfl
    have e3 : (swStep p t).2.2 = p.2.2 + t := rfl
    have := sw_bd ts (swStep p t) (c + 100) (fun u hu => h u (List.mem_cons_of_mem _ hu)) (by omega) (by omega) (by omega) (by omega) (by omega)
    have e : swF p (t :: ts) = swF (swStep p t) ts := rfl
    rw [e, List.length_cons]
    omega
def sp__law_apart (K : PySem.W.Frag) : Sp := fun vs H Q _ => ∃ (a b : Addr) (ts us : List Int) (m : Int), vs = [.ref a, .ref b, .int m] ∧ SqL K H a (li ts) ∧ SqL K H b (li us) ∧ 0 ≤ m ∧ m ≤ 1000 ∧ ∀ o v H', ApIs ts us m o → Ex H H' → IsAp H' v o → Q v H'
def sp__law_swing (K : PySem.W.Frag) : Sp := fun vs H Q _ => ∃ (a : Addr) (ts : List Int), vs = [.ref a] ∧ SqL K H a (li ts) ∧ ts.length ≤ 500 ∧ New (.tup [.int (sw ts).1, .int (sw ts).2.1]) H Q
section
variable {w : World} {K : PySem.W.Frag} {mg : Str → Option Value} {base : Heap}
theorem ok__law_apart (T : Txt K mg) : FnOk PR w K mg base CX0 2 T.a__law_apart T.d__law_apart ["_law_one", "_law_other", "_law_most"] (sp__law_apart K) := by
  refine T.f__law_apart.ok sc__law_apart (fun vs H Q E h => ?_) (fun cdv A outer s H vs Q E hr h => ?_)
  · obtain ⟨a, b, ts, us, m, rfl, _⟩ := h
    rfl
  · obtain ⟨a, b, ts, us, m, rfl, ha, hb, m0, m1, k⟩ := h
    refine ⟨_, (pss_cons (ps_for PassesOwn.never rfl (pi_range1 (by rfl) T.z_range (pa_cons (pe_op op_add (pv 2) pe_int) pa_nil)) (pg_name (i := 3) sc__law_apart.nd rfl (by first | exact Or.inl rfl | exact Or.inr rfl)) (pss_one (ps_for PassesOwn.never rfl (pi_range1 (by rfl) T.z_range (pa_cons (pe_op op_add (pv 3) pe_int) pa_nil)) (pg_name (i := 4) sc__law_apart.nd rfl (by first | exact Or.inl rfl | exact Or.inr rfl)) (pss_one (ps_if (pt_cmpR op_ne (pe_call (ok__law_led T) (hr.mono (by decide)) (by rfl) T.g__law_led T.f__law_led.kp (b__law_led T) .nil pass0 (pa_cons (pv 3) (pa_cons (pv 0) (pa_cons (pv 4) pa_nil)))) (pe_call (ok__law_led T) (hr.mono (by decide)) (by rfl) T.g__law_led T.f__law_led.kp (b__law_led T) .nil pass0 (pa_cons (pv 3) (pa_cons (pv 1) (pa_cons (pv 4) pa_nil)))) (nomark _)) (pss_one (ps_ret (pe_tupG (pa_cons (pv 3) (pa_cons (pv 4) pa_nil))))) pss_nil))))) (pss_one (ps_ret pe_non))), ?_⟩
    refine ⟨_, rfl, _, _, rfl, rfl, _, rfl, (by omega), (by omega), for_range (lo := 0) (n := (m + 1).toNat) (fun i σ H' => ∃ v u, σ = [some (.ref a), some (.ref b), some (.int m), v, u] ∧ H = H' ∧ ∀ S x : Int, 0 ≤ x → x ≤ S → S < (i : Int) → led S ts x = led S us x)
      ⟨_, _, rfl, rfl, fun S x h0 h1 h2 => by omega⟩ ?_ ?_⟩
    · rintro i σ H' hi ⟨v, u, rfl, rfl, al⟩
      refine ⟨_, rfl, _, _, rfl, rfl, _, rfl, (by omega), (by omega), for_range (lo := 0) (n := ((0 : Int) + (i : Int) + 1).toNat) (fun j σ H2 => ∃ u, σ = [some (.ref a), some (.ref b), some (.int m), some (.int (0 + (i : Int))), u] ∧ H = H2 ∧ ∀ x : Int, 0 ≤ x → x < (j : Int) → led i ts x = led i us x)
        ⟨_, rfl, rfl, fun x h0 h1 => by omega⟩ ?_ ?_⟩
      · rintro j σ H2 hj ⟨u, rfl, rfl, al2⟩
        have ei : (0 : Int) + (i : Int) = i := Int.zero_add _
        have ej : (0 : Int) + (j : Int) = j := Int.zero_add _
        refine ⟨_, rfl, _, rfl, _, rfl, _, _, a, ts, rfl, ha, ?_⟩
        refine ⟨_, rfl, _, rfl, _, rfl, _, _, b, us, rfl, hb, ?_⟩
        refine ⟨rfl, _, rfl, ?_⟩
        rw [ei, ej, dec_int]
        refine ifB (fun c => ?_) (fun c => ?_)
        · have c' : led i ts j ≠ led i us j := by simpa using c
          refine ⟨_, rfl, _, rfl, (by show 2 ≤ sizeLine; decide), fun p1 H1 n1 e1 h1 => ?_⟩
          exact k (some ((i : Int), (j : Int))) _ H1 (.inr ⟨i, j, rfl, by omega, by omega, by omega, al, al2, c'⟩) e1 ⟨p1, rfl, h1⟩
        · have c' : led i ts j = led i us j := by simpa using c
          refine ⟨_, rfl, rfl, fun x h0 h1 => ?_⟩
          by_cases e : x = j
          · rw [e]
            exact c'
          · exact al2 x h0 (by omega)
      · rintro σ H2 ⟨u, rfl, rfl, al2⟩
        refine ⟨_, _, rfl, rfl, fun S x h0 h1 h2 => ?_⟩
        by_cases e : S = i
        · rw [e]
          exact al2 x h0 (by omega)
        · exact al S x h0 h1 (by omega)
    · rintro σ H' ⟨v, u, rfl, rfl, al⟩
      exact k none .non H (.inl ⟨rfl, fun S x h0 h1 h2 => al S x h0 h1 (by omega)⟩) (Evl.Ex.refl _) rfl
theorem ok__law_swing (T : Txt K mg) : FnOk PR w K mg base CX0 1 T.a__law_swing T.d__law_swing ["_law_turns_here"] (sp__law_swing K) := by
  refine T.f__law_swing.ok sc__law_swing (fun vs H Q E h => ?_) (fun cdv A outer s H vs Q E hr h => ?_)
  · obtain ⟨a, ts, rfl, _⟩ := h
    rfl
  · obtain ⟨a, ts, rfl, ha, hl, k⟩ := h
    refine ⟨_, (pss_cons (ps_set (i := 1) sc__law_swing.nd rfl (by first | exact Or.inl rfl | exact Or.inr rfl) (pe_lstG (pa_cons pe_int pa_nil))) (pss_cons (ps_for PassesOwn.never rfl (pi_list (pv 0)) (pg_name (i := 2) sc__law_swing.nd rfl (by first | exact Or.inl rfl | exact Or.inr rfl)) (pss_one (ps_expr (pe_bm PySem.F.plainAttrs_list PySem.F.slot_list_append PySem.F.type_list_append mt_append (pv 1) (pa_cons (pe_op op_add (pe_ix ix_list (pv 1) (pe_un un_neg pe_int) (fun _ _ => rfl)) (pv 2)) pa_nil))))) (pss_one (ps_ret (pe_tupG (pa_cons (pe_callB (cr_min rfl) (by rfl) T.z_min (by decide +kernel) (pa_cons (pv 1) pa_nil)) (pa_cons (pe_callB (cr_max rfl) (by rfl) T.z_max (by decide +kernel) (pa_cons (pv 1) pa_nil)) pa_nil))))))), ?_⟩
    refine ⟨(by show 1 ≤ sizeLine; decide), fun F H1 n1 e1 h1 => ?_⟩
    refine ⟨_, rfl, a, rfl, ⟨_, Evl.ex_l e1 ha⟩, for_list (K := K) (a := a) (xs := li ts) (fun i σ H' => ∃ (v : Option V) (ps : List Int), σ = [some (.ref a), some (.ref F), v] ∧ Ex H H' ∧ H' F = some (.lst (li (ps ++ [(swF (0, 0, 0) (ts.take i)).2.2]))) ∧ ps.length = i ∧ (swF (0, 0, 0) (ts.take i)).1 ∈ ps ++ [(swF (0, 0, 0) (ts.take i)).2.2] ∧ (swF (0, 0, 0) (ts.take i)).2.1 ∈ ps ++ [(swF (0, 0, 0) (ts.take i)).2.2] ∧ ∀ y ∈ ps ++ [(swF (0, 0, 0) (ts.take i)).2.2], (swF (0, 0, 0) (ts.take i)).1 ≤ y ∧ y ≤ (swF (0, 0, 0) (ts.take i)).2.1) ⟨_, [], rfl, e1, h1, rfl, List.mem_singleton.mpr rfl, List.mem_singleton.mpr rfl, fun y hy => by
      rw [List.mem_singleton.mp hy]
      exact ⟨Int.le_refl _, Int.le_refl _⟩⟩ (fun i σ H' _ ⟨_, _, _, e, _⟩ => Evl.ex_l e ha) ?_ ?_⟩
    · rintro i x σ H' hi ⟨v, ps, rfl, e, hF, lp, m1, m2, al⟩
      obtain ⟨t, ht, rfl⟩ := mapI_get hi
      have il : i < ts.length := (List.getElem?_eq_some_iff.mp ht).1
      unfold swF at hF m1 m2 al ⊢
      rw [take_next ht, List.foldl_append, List.foldl_cons, List.foldl_nil]
      generalize (ts.take i).foldl swStep (0, 0, 0) = P at hF m1 m2 al ⊢
      have hF' : H' F = some (.lst (li ps ++ [V.int P.2.2])) := by
        rw [hF]
        unfold li
        rw [List.map_append]
        rfl
      refine ⟨_, rfl, .inl ⟨rfl, _, sqI hF'⟩, _, rfl, _, rfl, _, _, _, _, rfl, rfl, sqI hF', atI_last _ _, _, rfl, _, _, rfl, rfl, _, _, _, rfl, rfl, hF', ?_, ?_⟩
      · rw [List.length_append, List.length_map]
        exact Nat.lt_of_le_of_lt (show ps.length + 1 ≤ 501 by omega) (by decide)
      have c1 := mnI_c P.1 (P.2.2 + t)
      have c2 := mxI_c P.2.1 (P.2.2 + t)
      have e1 : (swStep P t).1 = mnI P.1 (P.2.2 + t) := rfl
      have e2 : (swStep P t).2.1 = mxI P.2.1 (P.2.2 + t) := rfl
      have e3 : (swStep P t).2.2 = P.2.2 + t := rfl
      refine ⟨_, ps ++ [P.2.2], rfl, Evl.Ex.mut e n1, ?_, by rw [List.length_append, lp]; rfl, ?_, ?_, fun y hy => ?_⟩
      · rw [upd_same, e3]
        unfold li
        simp
      · rw [e1, e3]
        rcases c1 with ⟨_, z⟩ | ⟨_, z⟩
        · rw [z]
          exact List.mem_append_right _ (List.mem_singleton.mpr rfl)
        · rw [z]
          exact List.mem_append_left _ m1
      · rw [e2, e3]
        rcases c2 with ⟨_, z⟩ | ⟨_, z⟩
        · rw [z]
          exact List.mem_append_right _ (List.mem_singleton.mpr rfl)
        · rw [z]
          exact List.mem_append_left _ m2
      · rw [e3] at hy
        rw [e1, e2]
        rcases List.mem_append.mp hy with z | z
        · have := al y z
          omega
        · have z := List.mem_singleton.mp z
          omega
    · rintro σ H' ⟨v, ps, rfl, e, hF, lp, m1, m2, al⟩
      rw [show (li ts).length = ts.length from List.length_map _, List.take_length] at hF m1 m2 al
      have es : swF (0, 0, 0) ts = sw ts := rfl
      rw [es] at hF m1 m2 al
      refine ⟨_, rfl, F, _, rfl, sqI hF, by simp, fun m hm hle => ?_⟩
      have em : m = (sw ts).1 := Int.le_antisymm (hle _ m1) (al m hm).1
      subst em
      refine ⟨_, rfl, F, _, rfl, sqI hF, by simp, fun m hm hle => ?_⟩
      have em : m = (sw ts).2.1 := Int.le_antisymm (al m hm).2 (hle _ m2)
      subst em
      refine ⟨(by show 2 ≤ sizeLine; decide), fun p1 H2 n2 e2 h2 => ?_⟩
      exact k p1 H2 (Evl.fresh_back e n2) (e.trans e2) h2
end
end K38
set_option Elab.async false
set_option pp.maxSteps 1200
set_option linter.all false
set_option maxRecDepth 100000
set_option maxHeartbeats 4000000
namespace K38
open PySem L2 My
abbrev scL (w : Int) (ts : List Int) : List Int := ts.map (w * ·)
theorem ra_some_mul {ts us : List Int} {s x w : Int} {o : Option (Int × Int)} (hw : 0 < w) (hn : form ts ≠ form us) (hs : IsS (form ts) (form us) s) (h : RaIs (scL w ts) (scL w us) o) : ∃ x', o = some (w * (s - 1) + 1, x') ∧ FirstDiff (scL w ts) (scL w us) (w * (s - 1) + 1) x' := by
  have hm := hs.mul hw
  rw [← form_scale hw, ← form_scale hw] at hm
  rcases h with ⟨rfl, h⟩ | ⟨s', x', rfl, h, f, i⟩
  · rw [form_scale hw, form_scale hw] at h
    have inj : ∀ {a b : List Int}, a.map (w * ·) = b.map (w * ·) → a = b := by
      intro a
      induction a with
      | nil =>
        intro b z
        cases b with
        | nil => rfl
        | cons y b => simp at z
      | cons y a ih =>
        intro b z
        cases b with
        | nil => simp at z
        | cons y' b =>
          rw [List.map_cons, List.map_cons] at z
          injection z with z1 z2
          rw [ih z2, Int.eq_of_mul_eq_mul_left (show w ≠ 0 by omega) z1]
    exact absurd (inj h) hn
  · have := i.uniq hm
    subst this
    exact ⟨x', rfl, f⟩
theorem ra_none_mul {ts us : List Int} {w : Int} {o : Option (Int × Int)} (hw : 0 < w) (he : form ts = form us) (h : RaIs (scL w ts) (scL w us) o) : o = none := by
  rcases h with ⟨rfl, _⟩ | ⟨s', x', rfl, h, _⟩
  · rfl
  · rw [form_scale hw, form_scale hw, he] at h
    exact absurd rfl h
theorem same_form {ts us : List Int} (he : form ts = form us) {S x : Int} (x0 : 0 ≤ x) (x1 : x ≤ S) : led S ts x = led S us x := by
  rw [← form_led (by omega) x0 x1 ts, ← form_led (by omega) x0 x1 us, he]
def sp__law_apart_right (K : PySem.W.Frag) : Sp := fun vs H Q _ => ∃ (a b : Addr) (ts us : List Int) (wd : Int), vs = [.ref a, .ref b, .int wd] ∧ SqL K H a (li ts) ∧ SqL K H b (li us) ∧ ts.length ≤ 100 ∧ us.length ≤ 100 ∧ (∀ t ∈ ts, -100 ≤ t ∧ t ≤ 100) ∧ (∀ t ∈ us, -100 ≤ t ∧ t ≤ 100) ∧ 1 ≤ wd ∧ wd < 2 ^ 100 ∧ Evl.RetV (.bl true) H Q
section
variable {w : World} {K : PySem.W.Frag} {mg : Str → Option Value} {base : Heap}
/-- what a comprehension of all turns so many times makes -/
theorem lc_sc {a : Addr} {ts : List Int} {wd : Int} {te : TE} {j : Nat} {vs : List Nat} {σ : L2.St} {H1 : Hp} {D : Addr} {Qd : Hp → Prop} (hx : SqL K H1 a (li ts)) (hD : H1 D = none) (hl : ts.length ≤ 100)
    (hw : ∀ x, wipe ((wipe σ vs).set j (some x)) vs = wipe σ vs)
    (he : ∀ t ∈ ts, ∀ H' (R : VK), R (.int (wd * t)) H' → te ((wipe σ vs).set j (some (.int t))) H' R)
    (k : ∀ H', Ex H1 H' → H' D = some (.lst (li (scL wd ts))) → Qd H') :
    ∃ W : Nat → Nat → Hp → Prop, (∃ m, W 0 m (upd H1 D (.lst []))) ∧ ∀ i m H, W i m H →
      ((Itl K a).stop i H ∧ Qd H) ∨ ((Itl K a).go i H ∧ ∃ Nx : Hp → Prop, (∀ H', Nx H' → ∃ m', m' < m ∧ W (i + 1) m' H') ∧ ∀ x H', (Itl K a).yld i H x H' → gName j x (wipe σ vs) H' fun σ2 H2 => wipe σ2 vs = wipe σ vs ∧ tYes σ2 H2 fun b H3 =>
        if b = true then te σ2 H3 fun y H4 => ∃ acc, H4 D = some (.lst acc) ∧ acc.length < sizeLine ∧ Nx (upd H4 D (.lst (acc ++ [y]))) else Nx H3) := by
  refine lc_mapL (K := K) (a := a) (ys := li (scL wd ts)) hx hD (by simp [li, scL]) ?_ hw ?_ k
  · rw [List.length_map]
    exact Nat.le_trans hl (by decide)
  · intro i x y H' e' hx hy R kR
    obtain ⟨u, hu, rfl⟩ := mapI_get hx
    rw [li, scL, List.map_map, List.getElem?_map, hu] at hy
    cases hy
    exact he u (List.mem_of_getElem? hu) H' R (kR H' (Evl.Ex.refl _))
theorem ok__law_apart_right (T : Txt K mg) : FnOk PR w K mg base CX0 4 T.a__law_apart_right T.d__law_apart_right ["_law_one", "_law_other", "_law_width"] (sp__law_apart_right K) := by
  refine T.f__law_apart_right.ok sc__law_apart_right (fun vs H Q E h => ?_) (fun cdv A outer s H vs Q E hr h => ?_)
  · obtain ⟨a, b, ts, us, wd, rfl, _⟩ := h
    rfl
  · obtain ⟨a, b, ts, us, wd, rfl, ha, hb, la, lb, bt, bu, w1, w2, k⟩ := h
    refine ⟨_, (pss_cons (ps_set (i := 3) sc__law_apart_right.nd rfl (by first | exact Or.inl rfl | exact Or.inr rfl) (pe_tupG (pa_cons (pe_call (ok__law_swing T) (hr.mono (by decide)) (by rfl) T.g__law_swing T.f__law_swing.kp (b__law_swing T) .nil pass0 (pa_cons (pv 0) pa_nil)) (pa_cons (pe_call (ok__law_swing T) (hr.mono (by decide)) (by rfl) T.g__law_swing T.f__law_swing.kp (b__law_swing T) .nil pass0 (pa_cons (pv 1) pa_nil)) pa_nil)))) (pss_cons (ps_set (i := 4) sc__law_apart_right.nd rfl (by first | exact Or.inl rfl | exact Or.inr rfl) (pe_op op_add (pe_callB (call_min2 rfl) (by rfl) T.z_min (by decide +kernel) (pa_cons (pe_op op_sub (pe_ix ix_tup (pe_ix ix_tup (pv 3) pe_int (fun _ _ => rfl)) pe_int (fun _ _ => rfl)) (pe_ix ix_tup (pe_ix ix_tup (pv 3) pe_int (fun _ _ => rfl)) pe_int (fun _ _ => rfl))) (pa_cons (pe_op op_sub (pe_ix ix_tup (pe_ix ix_tup (pv 3) pe_int (fun _ _ => rfl)) pe_int (fun _ _ => rfl)) (pe_ix ix_tup (pe_ix ix_tup (pv 3) pe_int (fun _ _ => rfl)) pe_int (fun _ _ => rfl))) pa_nil))) pe_int)) (pss_cons (ps_set (i := 5) sc__law_apart_right.nd rfl (by first | exact Or.inl rfl | exact Or.inr rfl) (pe_call (ok_room_apart T) (hr.mono (by decide)) (by rfl) T.g_room_apart T.f_room_apart.kp (b_room_apart T) .nil pass0 (pa_cons (pv 0) (pa_cons (pv 1) pa_nil)))) (pss_cons (ps_if (PW.pt (pw_or (pt_cmpR (op_neD hr.units) (pe_callK0 (ok_room_apart T) (hr.mono (by decide)) (by rfl) T.g_room_apart T.f_room_apart.kp (kb_room_apart_0_other_one T) pass0 (pk_cons (pv 0) (pk_cons (pv 1) pk_nil))) (pv 5) (nomark _)) (pw_or1 (pt_cmpR op_ne (pe_cmpR op_isN (pv 5) pe_non (nomark _)) (pe_call (ok_turns_alike T) (hr.mono (by decide)) (by rfl) T.g_turns_alike T.f_turns_alike.kp (b_turns_alike T) .nil pass0 (pa_cons (pv 0) (pa_cons (pv 1) pa_nil))) (nomark _))))) (pss_one (ps_ret pe_bl)) pss_nil) (pss_cons (ps_if (pt_cut (PW.pt (pw_and (pt_cmpR op_lt (pv 4) pe_int (nomark _)) (pw_and1 (pt_cmpR (op_neD hr.units) (pv 5) (pe_call (ok__law_apart T) (hr.mono (by decide)) (by rfl) T.g__law_apart T.f__law_apart.kp (b__law_apart T) .nil pass0 (pa_cons (pv 0) (pa_cons (pv 1) (pa_cons (pv 4) pa_nil)))) (nomark _)))))) (pss_one (ps_ret pe_bl)) pss_nil) (pss_cons (ps_set (i := 6) sc__law_apart_right.nd rfl (by first | exact Or.inl rfl | exact Or.inr rfl) (pe_call (ok_room_apart T) (hr.mono (by decide)) (by rfl) T.g_room_apart T.f_room_apart.kp (b_room_apart T) .nil pass0 (pa_cons (pe_lc (own := [("_law_turn", 12)]) (g := gName 12) (by rfl) sc__law_apart_right.nd (pi_list (pv 0)) (blkOk_by (own := [("_law_turn", 12)]) (N := ["_law_one", "_law_other", "_law_width", "_law_ends", "_law_most", "_law_told", "_law_wide", "_law_size", "_law_scroll", "_law_first", "_law_second", "_law_early", "_law_turn"]) (sc := (defScope s__law_apart_right)) (by decide +kernel)) (fun _ _ _ _ _ => (pg_name (i := 12) sc__law_apart_right.nd rfl (by first | exact Or.inl rfl | exact Or.inr rfl))) (fun _ _ _ _ _ => pts_nil) (fun _ _ _ _ _ => (pe_op op_mulW (pv 2) (pv 12)))) (pa_cons (pe_lc (own := [("_law_turn", 12)]) (g := gName 12) (by rfl) sc__law_apart_right.nd (pi_list (pv 1)) (blkOk_by (own := [("_law_turn", 12)]) (N := ["_law_one", "_law_other", "_law_width", "_law_ends", "_law_most", "_law_told", "_law_wide", "_law_size", "_law_scroll", "_law_first", "_law_second", "_law_early", "_law_turn"]) (sc := (defScope s__law_apart_right)) (by decide +kernel)) (fun _ _ _ _ _ => (pg_name (i := 12) sc__law_apart_right.nd rfl (by first | exact Or.inl rfl | exact Or.inr rfl))) (fun _ _ _ _ _ => pts_nil) (fun _ _ _ _ _ => (pe_op op_mulW (pv 2) (pv 12)))) pa_nil)))) (pss_cons (ps_if (PW.pt (pw_or (pt_cmpR op_isN (pv 5) pe_non (nomark _)) (pw_or1 (pt_cmpR op_isN (pv 6) pe_non (nomark _))))) (pss_one (ps_ret (pe_and (pe_cmpR op_isN (pv 5) pe_non (nomark _)) (pe_one (pe_cmpR op_isN (pv 6) pe_non (nomark _)))))) pss_nil) (pss_cons (ps_asg (pv 6) (pg_tup rfl (pgs_cons (pg_name (i := 7) sc__law_apart_right.nd rfl (by first | exact Or.inl rfl | exact Or.inr rfl)) (pgs_cons (pg_name (i := 8) sc__law_apart_right.nd rfl (by first | exact Or.inl rfl | exact Or.inr rfl)) pgs_nil)))) (pss_cons (ps_if (PW.pt (pw_or (pt_cmpR op_ne (pv 7) (pe_op op_add (pe_op op_mulW (pe_op op_sub (pe_ix ix_tup (pv 5) pe_int (fun _ _ => rfl)) pe_int) (pv 2)) pe_int) (nomark _)) (pw_or1 (pt_not (pt_chain op_le op_le pe_int (pv 8) (pv 7)))))) (pss_one (ps_ret pe_bl)) pss_nil) (pss_cons (ps_par (by rfl) sc__law_apart_right.nd rfl rfl (by decide) rfl rfl (i := 9) (j := 10) (pa_cons (pe_lc (own := [("_law_turn", 12)]) (g := gName 12) (by rfl) sc__law_apart_right.nd (pi_list (pv 0)) (blkOk_by (own := [("_law_turn", 12)]) (N := ["_law_one", "_law_other", "_law_width", "_law_ends", "_law_most", "_law_told", "_law_wide", "_law_size", "_law_scroll", "_law_first", "_law_second", "_law_early", "_law_turn"]) (sc := (defScope s__law_apart_right)) (by decide +kernel)) (fun _ _ _ _ _ => (pg_name (i := 12) sc__law_apart_right.nd rfl (by first | exact Or.inl rfl | exact Or.inr rfl))) (fun _ _ _ _ _ => pts_nil) (fun _ _ _ _ _ => (pe_op op_mulW (pv 2) (pv 12)))) (pa_cons (pe_lc (own := [("_law_turn", 12)]) (g := gName 12) (by rfl) sc__law_apart_right.nd (pi_list (pv 1)) (blkOk_by (own := [("_law_turn", 12)]) (N := ["_law_one", "_law_other", "_law_width", "_law_ends", "_law_most", "_law_told", "_law_wide", "_law_size", "_law_scroll", "_law_first", "_law_second", "_law_early", "_law_turn"]) (sc := (defScope s__law_apart_right)) (by decide +kernel)) (fun _ _ _ _ _ => (pg_name (i := 12) sc__law_apart_right.nd rfl (by first | exact Or.inl rfl | exact Or.inr rfl))) (fun _ _ _ _ _ => pts_nil) (fun _ _ _ _ _ => (pe_op op_mulW (pv 2) (pv 12)))) pa_nil)) (by rfl)) (pss_cons (ps_if (pt_cmpR op_eq (pe_call (ok__law_led T) (hr.mono (by decide)) (by rfl) T.g__law_led T.f__law_led.kp (b__law_led T) .nil pass0 (pa_cons (pv 7) (pa_cons (pv 9) (pa_cons (pv 8) pa_nil)))) (pe_call (ok__law_led T) (hr.mono (by decide)) (by rfl) T.g__law_led T.f__law_led.kp (b__law_led T) .nil pass0 (pa_cons (pv 7) (pa_cons (pv 10) (pa_cons (pv 8) pa_nil)))) (nomark _)) (pss_one (ps_ret pe_bl)) pss_nil) (pss_cons (ps_for PassesOwn.never rfl (pi_list (pe_lstG (pa_cons pe_int (pa_cons (pe_op op_fdivW (pv 8) pe_int) (pa_cons (pe_op op_sub (pv 8) pe_int) pa_nil))))) (pg_name (i := 11) sc__law_apart_right.nd rfl (by first | exact Or.inl rfl | exact Or.inr rfl)) (pss_one (ps_if (pt_cut (PW.pt (pw_and (pt_chain op_le op_lt pe_int (pv 11) (pv 8)) (pw_and1 (pt_cmpR op_ne (pe_call (ok__law_led T) (hr.mono (by decide)) (by rfl) T.g__law_led T.f__law_led.kp (b__law_led T) .nil pass0 (pa_cons (pv 7) (pa_cons (pv 9) (pa_cons (pv 11) pa_nil)))) (pe_call (ok__law_led T) (hr.mono (by decide)) (by rfl) T.g__law_led T.f__law_led.kp (b__law_led T) .nil pass0 (pa_cons (pv 7) (pa_cons (pv 10) (pa_cons (pv 11) pa_nil)))) (nomark _)))))) (pss_one (ps_ret pe_bl)) pss_nil))) (pss_cons (ps_set (i := 3) sc__law_apart_right.nd rfl (by first | exact Or.inl rfl | exact Or.inr rfl) (pe_lstG (pa_cons (pe_call (ok__law_led T) (hr.mono (by decide)) (by rfl) T.g__law_led T.f__law_led.kp (b__law_led T) .nil pass0 (pa_cons (pe_op op_sub (pv 7) pe_int) (pa_cons (pv 9) (pa_cons pe_int pa_nil)))) (pa_cons (pe_call (ok__law_led T) (hr.mono (by decide)) (by rfl) T.g__law_led T.f__law_led.kp (b__law_led T) .nil pass0 (pa_cons (pe_op op_sub (pv 7) pe_int) (pa_cons (pv 9) (pa_cons (pe_op op_sub (pv 7) pe_int) pa_nil)))) pa_nil)))) (pss_one (ps_ret (pe_cmpR (op_eqD hr.units) (pv 3) (pe_lstG (pa_cons (pe_call (ok__law_led T) (hr.mono (by decide)) (by rfl) T.g__law_led T.f__law_led.kp (b__law_led T) .nil pass0 (pa_cons (pe_op op_sub (pv 7) pe_int) (pa_cons (pv 10) (pa_cons pe_int pa_nil)))) (pa_cons (pe_call (ok__law_led T) (hr.mono (by decide)) (by rfl) T.g__law_led T.f__law_led.kp (b__law_led T) .nil pass0 (pa_cons (pe_op op_sub (pv 7) pe_int) (pa_cons (pv 10) (pa_cons (pe_op op_sub (pv 7) pe_int) pa_nil)))) pa_nil))) (nomark _))))))))))))))))), ?_⟩
    have w0 : 0 < wd := by omega
    have wb : wd.natAbs < 2 ^ 100 := by omega
    have st := sw_bd ts (0, 0, 0) 0 bt (Int.le_refl _) (Int.le_refl _) (Int.le_refl _) (Int.le_refl _) (Int.le_refl _)
    have su := sw_bd us (0, 0, 0) 0 bu (Int.le_refl _) (Int.le_refl _) (Int.le_refl _) (Int.le_refl _) (Int.le_refl _)
    have et : swF (0, 0, 0) ts = sw ts := rfl
    have eu : swF (0, 0, 0) us = sw us := rfl
    rw [et] at st
    rw [eu] at su
    have zt := sw_zero ts
    have zu := sw_zero us
    have gt := end_sw ts
    have gu := end_sw us
    refine ⟨_, rfl, a, ts, rfl, ha, by omega, fun p1 H1 n1 e1 h1 => ?_⟩
    refine ⟨_, rfl, b, us, rfl, Evl.ex_l e1 hb, by omega, fun p2 H2 n2 e2 h2 => ?_⟩
    refine ⟨(by show 2 ≤ sizeLine; decide), fun p3 H3 n3 e3 h3 => ?_⟩
    have h13 := sqT (K := K) ((e2.trans e3) _ _ h1)
    have h23 := sqT (K := K) (e3 _ _ h2)
    have h33 := sqT (K := K) h3
    refine ⟨_, rfl, _, _, _, _, rfl, rfl, h33, at0, _, _, _, _, rfl, rfl, h13, at1, _, rfl, _, _, _, _, rfl, rfl, h33, at0, _, _, _, _, rfl, rfl, h13, at0, _, _, rfl, rfl, _, rfl, _, _, _, _, rfl, rfl, h33, at1, _, _, _, _, rfl, rfl, h23, at1, _, rfl, _, _, _, _, rfl, rfl, h33, at1, _, _, _, _, rfl, rfl, h23, at0, _, _, rfl, rfl, _, _, rfl, _, _, rfl, rfl, ?_⟩
    obtain ⟨most, hmost⟩ : ∃ m, m = (if (sw us).2.1 - (sw us).1 < (sw ts).2.1 - (sw ts).1 then (sw us).2.1 - (sw us).1 else (sw ts).2.1 - (sw ts).1) + 1 := ⟨_, rfl⟩
    show gName 4 (V.int ((if (sw us).2.1 - (sw us).1 < (sw ts).2.1 - (sw ts).1 then (sw us).2.1 - (sw us).1 else (sw ts).2.1 - (sw ts).1) + 1)) _ _ _
    rw [← hmost]
    have mb : 1 ≤ most ∧ most ≤ 30000 ∧ endOf ts + 1 ≥ 1 ∧ (if endOf ts < endOf us then endOf ts else endOf us) + 1 ≤ most := by
      have g0 : 0 ≤ endOf ts := gr_nn _
      rw [hmost]
      split <;> split <;> omega
    have e03 := e1.trans (e2.trans e3)
    have ha3 := Evl.ex_l e03 ha
    have hb3 := Evl.ex_l e03 hb
    refine ⟨_, rfl, _, rfl, a, b, ts, us, rfl, ha3, hb3, by omega, by omega, fun o v H4 ra e4 ap => ?_⟩
    have e04 := e03.trans e4
    refine ⟨_, rfl, _, rfl, b, a, us, ts, rfl, Evl.ex_l e4 hb3, Evl.ex_l e4 ha3, by omega, by omega, fun o' v' H5 ra' e5 ap' => ?_⟩
    rw [ra.swap ra'] at ap'
    refine ⟨_, rfl, neAp ap' (ap.ex e5) ⟨_, rfl, ifF rfl ?_⟩⟩
    have e05 := e04.trans e5
    have ap5 := ap.ex e5
    have hb5 := Evl.ex_l e05 hb
    have ha5 := Evl.ex_l e05 ha
    rcases ra with ⟨rfl, hf⟩ | ⟨s, x, rfl, hn, fd, hs⟩
    · -- alike
      cases (show v = .non from ap)
      refine ⟨_, rfl, rfl, _, rfl, _, rfl, a, b, ts, us, rfl, ha5, hb5, by omega, by omega, fun H6 e6 => ?_⟩
      refine ⟨rfl, _, rfl, ifF (nef (by rw [decide_eq_true hf]; rfl)) ?_⟩
      refine ⟨fun b' H' => Ex H6 H' ∧ b' = false, ?_, ?_⟩
      · refine ⟨_, rfl, _, _, rfl, rfl, _, rfl, ?_⟩
        refine ifB (fun c => ?_) (fun c => ?_)
        · have c' : most < 18 := of_decide_eq_true c
          refine ⟨_, rfl, _, rfl, _, rfl, _, rfl, a, b, ts, us, most, rfl, Evl.ex_l e6 ha5, Evl.ex_l e6 hb5, by omega, by omega, fun o2 v2 H7 ai e7 ap7 => ?_⟩
          have : o2 = none := by
            rcases ai with ⟨rfl, _⟩ | ⟨s, x, rfl, _, f⟩
            · rfl
            · exact absurd (same_form hf f.1 f.2.1) f.2.2.2.2
          subst this
          exact neAp (o := none) rfl ap7 ⟨_, rfl, e7, rfl⟩
        · exact ⟨Evl.Ex.refl _, rfl⟩
      rintro b' H7 ⟨e7, rfl⟩
      refine ifF rfl ?_
      have e57 := e6.trans e7
      refine ⟨_, rfl, a, rfl, ⟨_, Evl.ex_l e57 ha5⟩, fun D nD => lc_sc (a := a) (ts := ts) (wd := wd) (Evl.ex_l e57 ha5) nD la (fun x => rfl) ?_ ?_⟩
      · intro t ht H' R kR
        have := bt t ht
        exact ⟨_, rfl, _, rfl, _, _, rfl, rfl, wide_mul (a := 100) (b := 10) wb (by omega) (by decide) (by decide) (by decide), kR⟩
      intro H8 e8 d8
      refine ⟨_, rfl, b, rfl, ⟨_, Evl.ex_l (e57.trans e8) hb5⟩, fun D2 nD2 => lc_sc (a := b) (ts := us) (wd := wd) (Evl.ex_l (e57.trans e8) hb5) nD2 lb (fun x => rfl) ?_ ?_⟩
      · intro t ht H' R kR
        have := bu t ht
        exact ⟨_, rfl, _, rfl, _, _, rfl, rfl, wide_mul (a := 100) (b := 10) wb (by omega) (by decide) (by decide) (by decide), kR⟩
      intro H9 e9 d9
      refine ⟨D, D2, scL wd ts, scL wd us, rfl, sqI (e9 _ _ d8), sqI d9, by rw [List.length_map]; omega, by rw [List.length_map]; omega, fun o3 v3 H10 r3 e10 ap3 => ?_⟩
      have := ra_none_mul w0 hf r3
      subst this
      cases (show v3 = .non from ap3)
      refine ⟨_, rfl, rfl, _, rfl, ifT rfl (ifT rfl ?_)⟩
      refine ⟨_, rfl, rfl, _, rfl, ?_⟩
      refine ifT rfl ?_
      refine ⟨_, rfl, rfl, ?_⟩
      exact k H10 (e05.trans (e57.trans (e8.trans (e9.trans e10))))
    · obtain ⟨pv, rfl, hpv⟩ := ap
      have hpv5 := e5 _ _ hpv
      refine ⟨_, rfl, rfl, _, rfl, _, rfl, a, b, ts, us, rfl, ha5, hb5, by omega, by omega, fun H6 e6 => ?_⟩
      refine ⟨rfl, _, rfl, ifF (nef (by rw [decide_eq_false hn]; rfl)) ?_⟩
      have sm : s ≤ most := by
        have h2 := hs.2.1
        have m4 := mb.2.2.2
        unfold endOf at m4
        omega
      refine ⟨fun b' H' => Ex H6 H' ∧ b' = false, ?_, ?_⟩
      · refine ⟨_, rfl, _, _, rfl, rfl, _, rfl, ?_⟩
        refine ifB (fun c => ?_) (fun c => ?_)
        · have c' : most < 18 := of_decide_eq_true c
          refine ⟨_, rfl, _, rfl, _, rfl, _, rfl, a, b, ts, us, most, rfl, Evl.ex_l e6 ha5, Evl.ex_l e6 hb5, by omega, by omega, fun o2 v2 H7 ai e7 ap7 => ?_⟩
          have : o2 = some (s, x) := by
            rcases ai with ⟨rfl, al⟩ | ⟨s', x', rfl, _, f⟩
            · exact absurd (al s x fd.1 fd.2.1 sm) fd.2.2.2.2
            · obtain ⟨z1, z2⟩ := f.uniq fd
              rw [z1, z2]
          subst this
          exact neAp (o := some (s, x)) ⟨pv, rfl, (e6.trans e7) _ _ hpv5⟩ ap7 ⟨_, rfl, e7, rfl⟩
        · exact ⟨Evl.Ex.refl _, rfl⟩
      rintro b' H7 ⟨e7, rfl⟩
      refine ifF rfl ?_
      have e57 := e6.trans e7
      refine ⟨_, rfl, a, rfl, ⟨_, Evl.ex_l e57 ha5⟩, fun D nD => lc_sc (a := a) (ts := ts) (wd := wd) (Evl.ex_l e57 ha5) nD la (fun x => rfl) ?_ ?_⟩
      · intro t ht H' R kR
        have := bt t ht
        exact ⟨_, rfl, _, rfl, _, _, rfl, rfl, wide_mul (a := 100) (b := 10) wb (by omega) (by decide) (by decide) (by decide), kR⟩
      intro H8 e8 d8
      refine ⟨_, rfl, b, rfl, ⟨_, Evl.ex_l (e57.trans e8) hb5⟩, fun D2 nD2 => lc_sc (a := b) (ts := us) (wd := wd) (Evl.ex_l (e57.trans e8) hb5) nD2 lb (fun x => rfl) ?_ ?_⟩
      · intro t ht H' R kR
        have := bu t ht
        exact ⟨_, rfl, _, rfl, _, _, rfl, rfl, wide_mul (a := 100) (b := 10) wb (by omega) (by decide) (by decide) (by decide), kR⟩
      intro H9 e9 d9
      refine ⟨D, D2, scL wd ts, scL wd us, rfl, sqI (e9 _ _ d8), sqI d9, by rw [List.length_map]; omega, by rw [List.length_map]; omega, fun o3 v3 H10 r3 e10 ap3 => ?_⟩
      obtain ⟨x', rfl, fw⟩ := ra_some_mul (x := x) w0 hn hs r3
      obtain ⟨pw, rfl, hpw⟩ := ap3
      have e510 := e57.trans (e8.trans (e9.trans e10))
      have hpv10 := e510 _ _ hpv5
      refine ⟨_, rfl, rfl, _, rfl, ifF rfl ?_⟩
      refine ⟨_, rfl, rfl, _, rfl, ifF rfl ?_⟩
      refine ⟨_, rfl, _, _, rfl, sqT hpw, rfl, _, _, rfl, _, _, rfl, rfl, ?_⟩
      obtain ⟨S, hS⟩ : ∃ S, S = wd * (s - 1) + 1 := ⟨_, rfl⟩
      have s1 := hs.1
      have sb : (s - 1).natAbs < 2 ^ 20 := by omega
      dsimp only
      obtain ⟨f1, f2, f3, f4, f5⟩ := fw
      have eS : (s - 1) * wd + 1 = wd * (s - 1) + 1 := by rw [Int.mul_comm]
      refine ⟨_, rfl, _, rfl, _, _, _, _, rfl, rfl, sqT hpv10, at0, _, _, rfl, rfl, _, rfl, _, _, rfl, rfl, wide_mul (a := 20) (b := 100) sb wb (by decide) (by decide) (by decide), _, _, rfl, rfl, rfl, _, rfl, ?_⟩
      refine ifF (nef (congrArg V.int eS.symm)) ?_
      rw [← hS] at f2 f3 f4 f5 ⊢
      refine ⟨_, rfl, _, _, rfl, rfl, _, rfl, ?_⟩
      refine ifT (decide_eq_true f1) ?_
      refine ⟨_, rfl, _, _, rfl, rfl, _, rfl, ?_⟩
      refine ifF (by rw [decide_eq_true f2]; rfl) ?_
      -- first, second
      have e010 := e05.trans e510
      refine ⟨_, rfl, a, rfl, ⟨_, Evl.ex_l e010 ha⟩, fun D3 nD3 => lc_sc (a := a) (ts := ts) (wd := wd) (Evl.ex_l e010 ha) nD3 la (fun x => rfl) ?_ ?_⟩
      · intro t ht H' R kR
        have := bt t ht
        exact ⟨_, rfl, _, rfl, _, _, rfl, rfl, wide_mul (a := 100) (b := 10) wb (by omega) (by decide) (by decide) (by decide), kR⟩
      intro H11 e11 d11
      refine ⟨_, rfl, b, rfl, ⟨_, Evl.ex_l (e010.trans e11) hb⟩, fun D4 nD4 => lc_sc (a := b) (ts := us) (wd := wd) (Evl.ex_l (e010.trans e11) hb) nD4 lb (fun x => rfl) ?_ ?_⟩
      · intro t ht H' R kR
        have := bu t ht
        exact ⟨_, rfl, _, rfl, _, _, rfl, rfl, wide_mul (a := 100) (b := 10) wb (by omega) (by decide) (by decide) (by decide), kR⟩
      intro H12 e12 d12
      refine ⟨_, _, rfl, ?_⟩
      have d11' := sqI (K := K) (e12 _ _ d11)
      have d12' := sqI (K := K) d12
      refine ⟨_, rfl, _, rfl, _, rfl, S, x', D3, scL wd ts, rfl, d11', ?_⟩
      refine ⟨_, rfl, _, rfl, _, rfl, S, x', D4, scL wd us, rfl, d12', ?_⟩
      refine ⟨rfl, _, rfl, ?_⟩
      rw [dec_int]
      refine ifF (decide_eq_false f5) ?_
      -- early
      refine ⟨_, rfl, _, _, rfl, rfl, wide_div (b := 10) (by decide) (by decide) (by decide) (by decide), _, rfl, _, _, rfl, rfl, (by show 3 ≤ sizeLine; decide), fun q H13 n13 e13 h13 => ?_⟩
      refine ⟨q, rfl, ⟨_, sqI h13⟩, for_list (K := K) (a := q) (xs := [V.int 0, V.int (x' / 2), V.int (x' - 1)]) (fun i σ H' => ∃ v11, σ = [some (.ref a), some (.ref b), some (.int wd), some (.ref p3), some (.int most), some (.ref pv), some (.ref pw), some (.int S), some (.int x'), some (.ref D3), some (.ref D4), v11, none] ∧ H13 = H') ⟨_, rfl, rfl⟩ (fun i σ H' _ ⟨_, _, e⟩ => by rw [← e]; exact sqI h13) ?_ ?_⟩
      · rintro i y σ H' hi ⟨v11, rfl, rfl⟩
        obtain ⟨t, ht, rfl⟩ := mapI_get (ts := [0, x' / 2, x' - 1]) hi
        refine ⟨fun b' H' => H13 = H' ∧ b' = false, ?_, ?_⟩
        · refine ⟨_, rfl, _, _, rfl, rfl, _, rfl, ?_⟩
          refine ifB (fun c => ?_) (fun c => ?_)
          · have c' : 0 ≤ t := of_decide_eq_true c
            refine ⟨_, rfl, _, _, rfl, rfl, _, rfl, ?_⟩
            refine ifB (fun d => ?_) (fun d => ?_)
            · have d' : t < x' := of_decide_eq_true d
              refine ⟨_, rfl, _, rfl, _, rfl, S, t, D3, scL wd ts, rfl, Evl.ex_l e13 d11', ?_⟩
              refine ⟨_, rfl, _, rfl, _, rfl, S, t, D4, scL wd us, rfl, Evl.ex_l e13 d12', ?_⟩
              refine ⟨rfl, _, rfl, rfl, ?_⟩
              rw [dec_int, decide_eq_true (f4 t c' d')]
              rfl
            · exact ⟨rfl, rfl⟩
          · exact ⟨_, rfl, ifF rfl ⟨rfl, rfl⟩⟩
        · rintro b' H' ⟨rfl, rfl⟩
          refine ifF rfl ?_
          exact ⟨_, rfl, rfl⟩
      · rintro σ H' ⟨v11, rfl, rfl⟩
        have d11'' := Evl.ex_l e13 d11'
        have d12'' := Evl.ex_l e13 d12'
        have S1 : 1 ≤ S := by
          have : 0 ≤ wd * (s - 1) := Int.mul_nonneg (by omega) (by omega)
          omega
        refine ⟨_, rfl, _, _, rfl, rfl, _, rfl, S - 1, 0, D3, scL wd ts, rfl, d11'', ?_⟩
        refine ⟨_, rfl, _, _, rfl, rfl, _, rfl, _, rfl, _, _, rfl, rfl, S - 1, S - 1, D3, scL wd ts, rfl, d11'', ?_⟩
        refine ⟨(by show 2 ≤ sizeLine; decide), fun q1 H14 n14 e14 h14 => ?_⟩
        refine ⟨_, rfl, _, rfl, _, _, rfl, rfl, _, rfl, S - 1, 0, D4, scL wd us, rfl, Evl.ex_l e14 d12'', ?_⟩
        refine ⟨_, rfl, _, _, rfl, rfl, _, rfl, _, rfl, _, _, rfl, rfl, S - 1, S - 1, D4, scL wd us, rfl, Evl.ex_l e14 d12'', ?_⟩
        refine ⟨(by show 2 ≤ sizeLine; decide), fun q2 H15 n15 e15 h15 => ?_⟩
        refine eqI_ (xs := [led (S - 1) (scL wd ts) 0, led (S - 1) (scL wd ts) (S - 1)]) (ys := [led (S - 1) (scL wd us) 0, led (S - 1) (scL wd us) (S - 1)]) (sqI (e15 _ _ h14)) (sqI h15) ?_
        rw [f3 (S - 1) 0 (Int.le_refl _) (by omega) (by omega), f3 (S - 1) (S - 1) (by omega) (Int.le_refl _) (by omega), decide_eq_true rfl]
        exact k H15 (e010.trans (e11.trans (e12.trans (e13.trans (e14.trans e15)))))
end
end K38
set_option Elab.async false
set_option maxRecDepth 100000
set_option maxHeartbeats 4000000
set_option linter.all false
/-! K38: the rooms in which turns lead to a scroll, found one by one. -/
namespace K38
def rngL (n : Nat) : List Int := (List.range n).map fun i => (0 : Int) + ((i : Nat) : Int)
def sizesL (ts : List Int) (k : Int) (n : Nat) : List Int := (rngL n).filter fun S => decide (lw ts S = k)
theorem rngL_succ (n : Nat) : rngL (n + 1) = rngL n ++ [(n : Int)] := by
  unfold rngL
  rw [List.range_succ, List.map_append]
  simp
theorem filt_none {p : Int → Bool} : ∀ n : Nat, (∀ j : Nat, j < n → p j = false) → (rngL n).filter p = []
  | 0, _ => rfl
  | n + 1, h => by
    rw [rngL_succ, List.filter_append, filt_none n fun j hj => h j (by omega), List.filter_cons, if_neg (by rw [h n (by omega)]; simp)]
    rfl
theorem filt_head {p : Int → Bool} {m : Nat} (hp : p m = true) (hl : ∀ j : Nat, j < m → p j = false) : ∀ n : Nat, m < n → ((rngL n).filter p)[0]? = some (m : Int)
  | n + 1, h => by
    rw [rngL_succ, List.filter_append]
    by_cases c : m < n
    · have ih := filt_head hp hl n c
      have : 0 < ((rngL n).filter p).length := by
        by_cases z : 0 < ((rngL n).filter p).length
        · exact z
        · rw [List.getElem?_eq_none (by omega)] at ih
          cases ih
      rw [List.getElem?_append_left this]
      exact ih
    · have e : m = n := by omega
      subst e
      rw [filt_none m hl, List.filter_cons, if_pos hp]
      rfl
theorem filt_last {p : Int → Bool} {m : Nat} (hp : p m = true) : ∀ n : Nat, m < n → (∀ j : Nat, m < j → j < n → p j = false) → ∃ l, (rngL n).filter p = l ++ [(m : Int)]
  | n + 1, h, hl => by
    rw [rngL_succ, List.filter_append]
    by_cases c : m < n
    · obtain ⟨l, hl2⟩ := filt_last hp n c fun j a b => hl j a (by omega)
      refine ⟨l, ?_⟩
      rw [hl2, List.filter_cons, if_neg (by rw [hl n c (by omega)]; simp)]
      simp
    · have e : m = n := by omega
      subst e
      exact ⟨(rngL m).filter p, by rw [List.filter_cons, if_pos hp]; rfl⟩
/-- what the list of rooms tells -/
theorem sizes_tell {ts : List Int} {k : Int} {n : Nat} {o : Option (Int × Option Int)} (h : RoomsIs ts k o) (hn : endOf ts < (n : Int)) (hk : 0 ≤ k) :
    (o = none ∧ sizesL ts k (n + 1) = []) ∨ (∃ m l, o = some (m, none) ∧ (sizesL ts k (n + 1))[0]? = some m ∧ sizesL ts k (n + 1) = l ++ [(n : Int)]) ∨ ∃ m q l, o = some (m, some q) ∧ (sizesL ts k (n + 1))[0]? = some m ∧ sizesL ts k (n + 1) = l ++ [q] ∧ q ≠ (n : Int) := by
  have g0 : 0 ≤ endOf ts := gr_nn _
  have top : ∀ j : Nat, j < n + 1 → lw ts (j : Int) ≤ lw ts (endOf ts) := fun j _ => by
    by_cases c : (j : Int) ≤ endOf ts
    · exact lw_le ts (by omega) c
    · rw [lw_far ts (by omega)]
      exact Int.le_refl _
  rcases h with ⟨rfl, h⟩ | ⟨m, rfl, h, l, me⟩ | ⟨m, m', rfl, h, l, r, me⟩
  · refine .inl ⟨rfl, filt_none _ fun j hj => decide_eq_false ?_⟩
    have := top j hj
    omega
  · have e := l.eq hk
    have m0 := l.1
    have em : ((m.toNat : Nat) : Int) = m := by omega
    refine .inr (.inl ⟨m, ?_⟩)
    have h1 := filt_head (p := fun S => decide (lw ts S = k)) (m := m.toNat) (by rw [em]; exact decide_eq_true e) (fun j hj => decide_eq_false (by have := l.2.2 j (by omega) (by omega); omega)) (n + 1) (by omega)
    obtain ⟨l', h2⟩ := filt_last (p := fun S => decide (lw ts S = k)) (m := n) (decide_eq_true (by rw [lw_far ts (by omega)]; exact h)) (n + 1) (by omega) (fun j a b => by omega)
    rw [em] at h1
    exact ⟨l', rfl, h1, h2⟩
  · have e := l.eq hk
    have m0 := l.1
    have em : ((m.toNat : Nat) : Int) = m := by omega
    obtain ⟨r1, r2, r3, _⟩ := least_up (by omega) r
    have eq : (((m' - 1).toNat : Nat) : Int) = m' - 1 := by omega
    have mm : m ≤ m' - 1 := l.le (by omega) (by omega)
    refine .inr (.inr ⟨m, m' - 1, ?_⟩)
    have h1 := filt_head (p := fun S => decide (lw ts S = k)) (m := m.toNat) (by rw [em]; exact decide_eq_true e) (fun j hj => decide_eq_false (by have := l.2.2 j (by omega) (by omega); omega)) (n + 1) (by omega)
    obtain ⟨l', h2⟩ := filt_last (p := fun S => decide (lw ts S = k)) (m := (m' - 1).toNat) (by rw [eq]; exact decide_eq_true (by omega)) (n + 1) (by omega) (fun j a b => decide_eq_false (by
      have := lw_le ts (S := m') (T := (j : Int)) (by omega) (by omega)
      omega))
    rw [em] at h1
    rw [eq] at h2
    exact ⟨l', rfl, h1, h2, by omega⟩
theorem sizes_len (ts : List Int) (k : Int) (n : Nat) : (sizesL ts k n).length ≤ n := by
  unfold sizesL
  refine Nat.le_trans (List.length_filter_le _ _) ?_
  unfold rngL
  rw [List.length_map, List.length_range]
  exact Nat.le_refl _
end K38
set_option Elab.async false
set_option pp.maxSteps 1200
set_option linter.all false
set_option maxRecDepth 100000
set_option maxHeartbeats 4000000
namespace My
open PySem L2
/-- a comprehension over a range, without tests, the element without a trace -/
theorem lc_mapR {lo : Int} {n : Nat} {ys : List V} {j : Nat} {te : TE} {vs : List Nat} {σ : L2.St} {H1 : Hp} {D : Addr} {Qd : Hp → Prop} (hD : H1 D = none) (hl : ys.length = n) (hz : n ≤ sizeLine)
    (hw : ∀ x, wipe ((wipe σ vs).set j (some x)) vs = wipe σ vs)
    (he : ∀ (i : Nat) y H', Ex H1 H' → i < n → ys[i]? = some y → ∀ R : VK, (∀ H2, Ex H' H2 → R y H2) → te ((wipe σ vs).set j (some (.int (lo + i)))) H' R)
    (k : ∀ H', Ex H1 H' → H' D = some (.lst ys) → Qd H') :
    ∃ W : Nat → Nat → Hp → Prop, (∃ m, W 0 m (upd H1 D (.lst []))) ∧ ∀ i m H, W i m H →
      ((Itr lo n).stop i H ∧ Qd H) ∨ ((Itr lo n).go i H ∧ ∃ Nx : Hp → Prop, (∀ H', Nx H' → ∃ m', m' < m ∧ W (i + 1) m' H') ∧ ∀ x H', (Itr lo n).yld i H x H' → gName j x (wipe σ vs) H' fun σ2 H2 => wipe σ2 vs = wipe σ vs ∧ tYes σ2 H2 fun b H3 =>
        if b = true then te σ2 H3 fun y H4 => ∃ acc, H4 D = some (.lst acc) ∧ acc.length < sizeLine ∧ Nx (upd H4 D (.lst (acc ++ [y]))) else Nx H3) := by
  refine lc_range (fun i H' => Ex H1 H' ∧ H' D = some (.lst (ys.take i))) ⟨Evl.Ex.new hD, upd_same⟩ (fun i H' hi p => ?_) (fun H' p => k H' p.1 ?_)
  · have hy : ys[i]? = some (ys[i]'(by omega)) := List.getElem?_eq_getElem (by omega)
    refine ⟨hw _, ?_⟩
    show te ((wipe σ vs).set j (some (.int (lo + i)))) H' _
    refine he i _ H' p.1 hi hy _ fun H2 e2 => ⟨ys.take i, e2 _ _ p.2, ?_, ?_⟩
    · rw [List.length_take]
      omega
    · refine ⟨Evl.Ex.mut (p.1.trans e2) hD, ?_⟩
      rw [upd_same, List.take_add_one, hy]
      rfl
  · have := p.2
    rw [List.take_of_length_le (by omega)] at this
    exact this

end My
namespace K38
open PySem L2 My
theorem goodRm : Good (optE (eP PyData.int (optE PyData.int))) 1 := goodOpt (goodP goodI (goodOpt goodI fun x => ⟨rfl, rfl⟩)) fun x => ⟨rfl, rfl⟩
theorem IsRm.dp {K : PySem.W.Frag} {H : Hp} {v : V} : ∀ {o : Option (Int × Option Int)}, IsRm H v o → Dp K H v (optE (eP PyData.int (optE PyData.int)) o)
  | none, h => by
    cases (show v = .non from h)
    exact .non
  | some (m, none), ⟨p, a, h⟩ => by
    subst a
    exact .tup (sqT h) (.cons (.int _) (.cons .non .nil))
  | some (m, some n), ⟨p, a, h⟩ => by
    subst a
    exact .tup (sqT h) (.cons (.int _) (.cons (.int _) .nil))
theorem IsRm.ex {H H' : Hp} {v : V} (e : Ex H H') : ∀ {o : Option (Int × Option Int)}, IsRm H v o → IsRm H' v o
  | none, h => h
  | some (_, none), ⟨p, a, h⟩ => ⟨p, a, e _ _ h⟩
  | some (_, some _), ⟨p, a, h⟩ => ⟨p, a, e _ _ h⟩
theorem neRm {K : PySem.W.Frag} {H : Hp} {v u : V} {o : Option (Int × Option Int)} {Q : VK} (h1 : IsRm H v o) (h2 : IsRm H u o) (q : Q (.bl false) H) : rNeD K v u H Q := neE goodRm (by decide) h1.dp h2.dp (by rw [decide_eq_true rfl]; exact q)
theorem eqRm {K : PySem.W.Frag} {H : Hp} {v u : V} {o : Option (Int × Option Int)} {Q : VK} (h1 : IsRm H v o) (h2 : IsRm H u o) (q : Q (.bl true) H) : rEqD K v u H Q := eqE goodRm (by decide) h1.dp h2.dp (by rw [decide_eq_true rfl]; exact q)
theorem neT {K : PySem.W.Frag} {H : Hp} {a b : Addr} {xs : List Int} {Q : VK} (h1 : SqT K H a (li xs)) (h2 : SqT K H b (li xs)) (q : Q (.bl false) H) : rNeD K (.ref a) (.ref b) H Q := neE (goodT goodI) (by decide) (.tup h1 (dpI xs)) (.tup h2 (dpI xs)) (by rw [decide_eq_true rfl]; exact q)
def sp__law_rooms_right (K : PySem.W.Frag) : Sp := fun vs H Q _ => ∃ (a : Addr) (ts : List Int) (k wd : Int), vs = [.ref a, .int k, .int wd] ∧ SqL K H a (li ts) ∧ ts.length ≤ 100 ∧ (∀ t ∈ ts, -100 ≤ t ∧ t ≤ 100) ∧ 0 ≤ k ∧ k ≤ 100 ∧ 1 ≤ wd ∧ wd < 2 ^ 100 ∧ Evl.RetV (.bl true) H Q
def sp__law_refused (K : PySem.W.Frag) : Sp := fun vs H Q _ => ∃ (a : Addr) (ts : List Int) (k : Int), vs = [.ref a, .int k] ∧ SqL K H a (li ts) ∧ ts.length ≤ 500 ∧ Evl.RetV (if k < 0 then .int k else .non) H Q
section
variable {w : World} {K : PySem.W.Frag} {mg : Str → Option Value} {base : Heap}
theorem ok__law_refused (T : Txt K mg) : FnOk PR w K mg base CX0 5 T.a__law_refused T.d__law_refused ["_law_turns_here", "_law_scroll"] (sp__law_refused K) := by
  refine T.f__law_refused.ok sc__law_refused (fun vs H Q E h => ?_) (fun cdv A outer s H vs Q E hr h => ?_)
  · obtain ⟨a, ts, c, rfl, _⟩ := h
    rfl
  · obtain ⟨a, ts, c, rfl, ha, hl, k⟩ := h
    refine ⟨_, (pss_cons (ps_cut (ps_try_as (i := 2) rfl rfl sc__law_refused.nd rfl rfl ⟨by rfl, by decide, .inl T.g_InvalidNumber⟩ takes0 (fun W pn xe tk po => (pss_one (ps_expr (pe_callS (ok_rooms_for T) (hr.mono (by decide)) (by rfl) T.g_rooms_for T.f_rooms_for.kp (b_rooms_for T) (fun σ => passAt tk σ) (pa_cons (pv 0) (pa_cons (pv 1) pa_nil)))))) (fun a oe cls d pn hz hf => (pss_one (ps_ret (pe_xf T.e_InvalidNumber.xf T.e_InvalidNumber.nov hz hf (pv 2))))))) (pss_one (ps_ret pe_non))), ?_⟩
    refine ⟨fun σ' H' => Q .non H', ?_, fun σ' H' q => q⟩
    refine ⟨_, rfl, _, rfl, a, ts, c, rfl, ha, hl, fun c0 o v H1 rm e1 iv => ?_, fun c0 => ?_⟩
    · rw [if_neg (by omega)] at k
      exact k _ e1
    · rw [if_pos c0] at k
      exact fun d H' hd e hx => ⟨true, T.x_InvalidNumber_InvalidNumber, fun _ a ha => ⟨_, rfl, rfl, rfl, d, _, _, rfl, hx, rfl, k _ e⟩, fun q => nomatch q⟩
theorem ok__law_rooms_right (T : Txt K mg) : FnOk PR w K mg base CX0 5 T.a__law_rooms_right T.d__law_rooms_right ["_law_turns_here", "_law_scroll", "_law_width"] (sp__law_rooms_right K) := by
  refine T.f__law_rooms_right.ok sc__law_rooms_right (fun vs H Q E h => ?_) (fun cdv A outer s H vs Q E hr h => ?_)
  · obtain ⟨a, ts, c, wd, rfl, _⟩ := h
    rfl
  · obtain ⟨a, ts, c, wd, rfl, ha, la, bt, c0, c1, w1, w2, k⟩ := h
    refine ⟨_, (pss_cons (ps_asg (pe_call (ok__law_swing T) (hr.mono (by decide)) (by rfl) T.g__law_swing T.f__law_swing.kp (b__law_swing T) .nil pass0 (pa_cons (pv 0) pa_nil)) (pg_tup rfl (pgs_cons (pg_name (i := 3) sc__law_rooms_right.nd rfl (by first | exact Or.inl rfl | exact Or.inr rfl)) (pgs_cons (pg_name (i := 4) sc__law_rooms_right.nd rfl (by first | exact Or.inl rfl | exact Or.inr rfl)) pgs_nil)))) (pss_cons (ps_setLc (i := 5) (own := [("_law_turn", 12)]) (g := gName 12) (by rfl) sc__law_rooms_right.nd rfl rfl (sw_true rfl rfl rfl (by decide +kernel)) (pi_list (pv 0)) (blkOk_by (own := [("_law_turn", 12)]) (N := ["_law_turns_here", "_law_scroll", "_law_width", "_law_least", "_law_greatest", "_law_great", "_law_most", "_law_places", "_law_sizes", "_law_told", "_law_due", "_law_wide", "_law_turn", "_law_size"]) (sc := (defScope s__law_rooms_right)) (by decide +kernel)) (fun _ _ _ _ _ => (pg_name (i := 12) sc__law_rooms_right.nd rfl (by first | exact Or.inl rfl | exact Or.inr rfl))) (fun _ _ _ _ _ => pts_nil) (fun _ _ _ _ _ => (pe_op op_mulW (pv 2) (pv 12)))) (pss_cons (ps_if (PW.pt (pw_or (pt_cmpR (op_neD hr.units) (pe_call (ok_swing T) (hr.mono (by decide)) (by rfl) T.g_swing T.f_swing.kp (b_swing T) .nil pass0 (pa_cons (pv 0) pa_nil)) (pe_tupG (pa_cons (pv 3) (pa_cons (pv 4) pa_nil))) (nomark _)) (pw_or1 (pt_cmpR (op_neD hr.units) (pe_callK0 (ok_swing T) (hr.mono (by decide)) (by rfl) T.g_swing T.f_swing.kp (kb_swing_0_turns T) pass0 (pk_cons (pv 5) pk_nil)) (pe_tupG (pa_cons (pe_op op_mulW (pv 2) (pv 3)) (pa_cons (pe_op op_mulW (pv 2) (pv 4)) pa_nil))) (nomark _))))) (pss_one (ps_ret pe_bl)) pss_nil) (pss_cons (ps_set (i := 6) sc__law_rooms_right.nd rfl (by first | exact Or.inl rfl | exact Or.inr rfl) (pe_callB (call_min2 rfl) (by rfl) T.z_min (by decide +kernel) (pa_cons pe_int (pa_cons (pe_op op_add (pe_op op_sub (pv 4) (pv 3)) pe_int) pa_nil)))) (pss_cons (ps_set (i := 7) sc__law_rooms_right.nd rfl (by first | exact Or.inl rfl | exact Or.inr rfl) (pe_lc (own := [("_law_size", 13)]) (g := gName 13) (by rfl) sc__law_rooms_right.nd (pi_range1 (by rfl) T.z_range (pa_cons (pe_op op_add (pv 6) pe_int) pa_nil)) (blkOk_by (own := [("_law_size", 13)]) (N := ["_law_turns_here", "_law_scroll", "_law_width", "_law_least", "_law_greatest", "_law_great", "_law_most", "_law_places", "_law_sizes", "_law_told", "_law_due", "_law_wide", "_law_turn", "_law_size"]) (sc := (defScope s__law_rooms_right)) (by decide +kernel)) (fun _ _ _ _ _ => (pg_name (i := 13) sc__law_rooms_right.nd rfl (by first | exact Or.inl rfl | exact Or.inr rfl))) (fun _ _ _ _ _ => pts_nil) (fun _ _ _ _ _ => (pe_call (ok__law_led T) (hr.mono (by decide)) (by rfl) T.g__law_led T.f__law_led.kp (b__law_led T) .nil pass0 (pa_cons (pv 13) (pa_cons (pv 0) (pa_cons pe_int pa_nil))))))) (pss_cons (ps_if (pt_cmpR (op_neD hr.units) (pe_lc (own := [("_law_size", 13)]) (g := gName 13) (by rfl) sc__law_rooms_right.nd (pi_range1 (by rfl) T.z_range (pa_cons (pv 6) pa_nil)) (blkOk_by (own := [("_law_size", 13)]) (N := ["_law_turns_here", "_law_scroll", "_law_width", "_law_least", "_law_greatest", "_law_great", "_law_most", "_law_places", "_law_sizes", "_law_told", "_law_due", "_law_wide", "_law_turn", "_law_size"]) (sc := (defScope s__law_rooms_right)) (by decide +kernel)) (fun _ _ _ _ _ => (pg_name (i := 13) sc__law_rooms_right.nd rfl (by first | exact Or.inl rfl | exact Or.inr rfl))) (fun _ _ _ _ _ => (pts_one (pt_not (pt_chain op_le op_le pe_int (pe_op op_sub (pe_ix (ixK (r := rIxL) (K := K) (by rfl) ix_list) (pv 7) (pe_op op_add (pv 13) pe_int) (fun _ _ => rfl)) (pe_ix (ixK (r := rIxL) (K := K) (by rfl) ix_list) (pv 7) (pv 13) (fun _ _ => rfl))) pe_int)))) (fun _ _ _ _ _ => (pv 13))) (pe_lstG pa_nil) (nomark _)) (pss_one (ps_ret pe_bl)) pss_nil) (pss_cons (ps_setLc (i := 8) (own := [("_law_size", 13)]) (g := gName 13) (by rfl) sc__law_rooms_right.nd rfl rfl (sw_true rfl rfl rfl (by decide +kernel)) (pi_range1 (by rfl) T.z_range (pa_cons (pe_op op_add (pv 6) pe_int) pa_nil)) (blkOk_by (own := [("_law_size", 13)]) (N := ["_law_turns_here", "_law_scroll", "_law_width", "_law_least", "_law_greatest", "_law_great", "_law_most", "_law_places", "_law_sizes", "_law_told", "_law_due", "_law_wide", "_law_turn", "_law_size"]) (sc := (defScope s__law_rooms_right)) (by decide +kernel)) (fun _ _ _ _ _ => (pg_name (i := 13) sc__law_rooms_right.nd rfl (by first | exact Or.inl rfl | exact Or.inr rfl))) (fun _ _ _ _ _ => (pts_one (pt_cmpR op_eq (pe_ix (ixK (r := rIxL) (K := K) (by rfl) ix_list) (pv 7) (pv 13) (fun _ _ => rfl)) (pv 1) (nomark _)))) (fun _ _ _ _ _ => (pv 13))) (pss_cons (ps_set (i := 9) sc__law_rooms_right.nd rfl (by first | exact Or.inl rfl | exact Or.inr rfl) (pe_call (ok_rooms_for T) (hr.mono (by decide)) (by rfl) T.g_rooms_for T.f_rooms_for.kp (b_rooms_for T) .nil passL (pa_cons (pv 0) (pa_cons (pv 1) pa_nil)))) (pss_cons (ps_cut (ps_if (pt_cmpR op_eq (pv 6) (pe_op op_add (pe_op op_sub (pv 4) (pv 3)) pe_int) (nomark _)) (pss_cons (ps_set (i := 10) sc__law_rooms_right.nd rfl (by first | exact Or.inl rfl | exact Or.inr rfl) (pe_cut (pe_ifExp (pt_cmpR (op_eqD hr.units) (pv 8) (pe_lstG pa_nil) (nomark _)) pe_non (pe_tupG (pa_cons (pe_ix ix_list (pv 8) pe_int (fun _ _ => rfl)) (pa_cons (pe_cut (pe_ifExp (pt_cmpR op_eq (pe_ix ix_list (pv 8) (pe_un un_neg pe_int) (fun _ _ => rfl)) (pv 6) (nomark _)) pe_non (pe_ix ix_list (pv 8) (pe_un un_neg pe_int) (fun _ _ => rfl)))) pa_nil)))))) (pss_one (ps_if (pt_cmpR (op_neD hr.units) (pv 9) (pv 10) (nomark _)) (pss_one (ps_ret pe_bl)) pss_nil))) pss_nil)) (pss_cons (ps_set (i := 11) sc__law_rooms_right.nd rfl (by first | exact Or.inl rfl | exact Or.inr rfl) (pe_callK0 (ok_rooms_for T) (hr.mono (by decide)) (by rfl) T.g_rooms_for T.f_rooms_for.kp (kb_rooms_for_0_scroll_turns T) passL (pk_cons (pe_op op_mulW (pv 2) (pv 1)) (pk_cons (pv 5) pk_nil)))) (pss_cons (ps_if (pt_cmpR op_isN (pv 9) pe_non (nomark _)) (pss_one (ps_ret (pe_cmpR op_isN (pv 11) pe_non (nomark _)))) pss_nil) (pss_one (ps_ret (pe_cmpR (op_eqD hr.units) (pv 11) (pe_tupG (pa_cons (pe_op op_mulW (pv 2) (pe_ix ix_tup (pv 9) pe_int (fun _ _ => rfl))) (pa_cons (pe_cut (pe_ifExp (pt_cmpR op_isN (pe_ix ix_tup (pv 9) pe_int (fun _ _ => rfl)) pe_non (nomark _)) pe_non (pe_op op_mulW (pv 2) (pe_ix ix_tup (pv 9) pe_int (fun _ _ => rfl))))) pa_nil))) (nomark _))))))))))))))), ?_⟩
    have w0 : 0 < wd := by omega
    have wb : wd.natAbs < 2 ^ 100 := by omega
    have st := sw_bd ts (0, 0, 0) 0 bt (Int.le_refl _) (Int.le_refl _) (Int.le_refl _) (Int.le_refl _) (Int.le_refl _)
    have et : swF (0, 0, 0) ts = sw ts := rfl
    rw [et] at st
    have zt := sw_zero ts
    have gt := end_sw ts
    have g0 : 0 ≤ endOf ts := gr_nn _
    refine ⟨_, rfl, a, ts, rfl, ha, by omega, fun p1 H1 n1 e1 h1 => ?_⟩
    refine ⟨_, _, rfl, sqT h1, rfl, _, _, rfl, _, _, rfl, rfl, ?_⟩
    have ha1 := Evl.ex_l e1 ha
    refine ⟨_, rfl, a, rfl, ⟨_, ha1⟩, fun D nD => lc_sc (a := a) (ts := ts) (wd := wd) ha1 nD la (fun x => rfl) ?_ ?_⟩
    · intro t ht H' R kR
      have := bt t ht
      exact ⟨_, rfl, _, rfl, _, _, rfl, rfl, wide_mul (a := 100) (b := 10) wb (by omega) (by decide) (by decide) (by decide), kR⟩
    intro H2 e2 d2
    have ha2 := Evl.ex_l e2 ha1
    -- swings
    refine ⟨_, rfl, a, ts, rfl, ha2, fun p3 H3 n3 e3 h3 => ?_⟩
    refine ⟨_, rfl, _, rfl, (by show 2 ≤ sizeLine; decide), fun p4 H4 n4 e4 h4 => ?_⟩
    refine neT (xs := [(sw ts).1, (sw ts).2.1]) (sqT (e4 _ _ h3)) (sqT h4) ⟨_, rfl, ifF rfl ?_⟩
    have e24 := e3.trans e4
    refine ⟨_, rfl, D, scL wd ts, rfl, sqI (e24 _ _ d2), fun p5 H5 n5 e5 h5 => ?_⟩
    rw [sw_muls w0] at h5
    have lb : (sw ts).1.natAbs < 2 ^ 20 := by omega
    have ub : (sw ts).2.1.natAbs < 2 ^ 20 := by omega
    refine ⟨_, rfl, _, rfl, _, _, rfl, rfl, wide_mul (a := 100) (b := 20) wb lb (by decide) (by decide) (by decide), _, rfl, _, rfl, _, _, rfl, rfl, wide_mul (a := 100) (b := 20) wb ub (by decide) (by decide) (by decide), (by show 2 ≤ sizeLine; decide), fun p6 H6 n6 e6 h6 => ?_⟩
    refine neT (xs := [wd * (sw ts).1, wd * (sw ts).2.1]) (sqT (e6 _ _ h5)) (sqT h6) ⟨_, rfl, ifF rfl ?_⟩
    have e26 := e24.trans (e5.trans e6)
    have e06 := e1.trans (e2.trans e26)
    -- most
    refine ⟨_, rfl, _, rfl, _, _, rfl, rfl, _, _, rfl, rfl, _, _, rfl, ?_⟩
    show gName 6 (V.int (if (sw ts).2.1 - (sw ts).1 + 1 < 40 then (sw ts).2.1 - (sw ts).1 + 1 else 40)) _ _ _
    obtain ⟨most, hmost⟩ : ∃ m, m = (if (sw ts).2.1 - (sw ts).1 + 1 < 40 then (sw ts).2.1 - (sw ts).1 + 1 else 40) := ⟨_, rfl⟩
    rw [← hmost]
    have m1 : 1 ≤ most ∧ most ≤ 40 := by
      rw [hmost]
      split <;> omega
    -- places
    refine ⟨_, rfl, _, _, rfl, rfl, _, rfl, by omega, by omega, fun P nP => lc_mapR (lo := 0) (n := (most + 1).toNat) (ys := li ((rngL (most + 1).toNat).map (lw ts))) nP (by simp [li, rngL]) (Nat.le_trans (show (most + 1).toNat ≤ 41 by omega) (by decide)) (fun x => rfl) ?_ ?_⟩
    · intro i y H' e' hi hy R kR
      have : y = .int (lw ts (0 + (i : Int))) := by
        rw [li, rngL, List.map_map, List.map_map, List.getElem?_map, List.getElem?_range hi] at hy
        exact (Option.some.inj hy).symm
      subst this
      exact ⟨_, rfl, _, rfl, 0 + (i : Int), 0, a, ts, rfl, Evl.ex_l (e06.trans e') ha, kR H' (Evl.Ex.refl _)⟩
    intro H7 e7 d7
    have e07 := e06.trans e7
    have atP : ∀ i : Nat, i < (most + 1).toNat → atI (li ((rngL (most + 1).toNat).map (lw ts))) (i : Int) = some (.int (lw ts (i : Int))) := fun i hi => by
      refine atI_nat ?_
      rw [li, rngL, List.map_map, List.map_map, List.getElem?_map, List.getElem?_range hi]
      show some (V.int (lw ts (0 + (i : Int)))) = _
      rw [Int.zero_add]
    -- steps
    refine ⟨_, rfl, _, rfl, by omega, by omega, fun D8 nD8 => lc_filtR (lo := 0) (n := most.toNat) (p := fun _ => false) nD8 (by omega) (fun x => rfl) ?_ ?_ ?_⟩
    · intro i H' hi e' R kR
      have ss := lw_steps ts (S := (i : Int) + 1) (by omega)
      rw [Int.add_sub_cancel] at ss
      have a1 := atP (i + 1) (by omega)
      have a0 := atP i (by omega)
      have d7' := sqI (K := K) (e' _ _ d7)
      have ei : (0 : Int) + (i : Int) = (i : Int) := Int.zero_add _
      rw [ei]
      refine ⟨_, rfl, _, rfl, _, _, rfl, rfl, _, _, _, _, rfl, rfl, d7', (show atI _ ((i : Int) + 1) = some (.int (lw ts ((i : Int) + 1))) from a1), _, rfl, _, rfl, _, _, _, _, rfl, rfl, d7', a0, _, _, rfl, rfl, _, _, rfl, rfl, _, rfl, ?_⟩
      refine ifT (decide_eq_true (by omega)) ?_
      refine ⟨_, _, rfl, rfl, _, rfl, ?_⟩
      have : (!decide (lw ts ((i : Int) + 1) - lw ts (i : Int) ≤ 1)) = false := by
        rw [decide_eq_true (by omega)]
        rfl
      show R (!decide (lw ts ((i : Int) + 1) - lw ts (i : Int) ≤ 1)) H'
      rw [this]
      exact kR H' (Evl.Ex.refl _)
    · intro v H' N kN
      exact ⟨_, rfl, kN⟩
    intro H8 e8 d8
    rw [List.filter_eq_nil_iff.mpr (fun x _ => by simp)] at d8
    refine ⟨(by show 0 ≤ sizeLine; decide), fun p9 H9 n9 e9 h9 => ?_⟩
    refine neI_ (xs := []) (ys := []) (sqI (e9 _ _ d8)) (sqI h9) ⟨_, rfl, ifF rfl ?_⟩
    have e79 := e8.trans e9
    have d79 := e79 _ _ d7
    have e09 := e07.trans e79
    -- sizes
    refine ⟨_, rfl, _, _, rfl, rfl, _, rfl, by omega, by omega, fun Z nZ => lc_filtR (lo := 0) (n := (most + 1).toNat) (p := fun S => decide (lw ts S = c)) nZ (by omega) (fun x => rfl) ?_ ?_ ?_⟩
    · intro i H' hi e' R kR
      have ei : (0 : Int) + (i : Int) = (i : Int) := Int.zero_add _
      rw [ei]
      refine ⟨_, rfl, _, rfl, _, _, _, _, rfl, rfl, sqI (e' _ _ d79), atP i hi, _, rfl, rfl, _, rfl, ?_⟩
      rw [dec_int]
      rw [ei] at kR
      exact kR H' (Evl.Ex.refl _)
    · intro v H' N kN
      exact ⟨_, rfl, kN⟩
    intro H10 e10 d10
    have d10 : H10 Z = some (.lst (li (sizesL ts c (most + 1).toNat))) := d10
    have e010 := e09.trans e10
    refine ⟨_, rfl, _, rfl, a, ts, c, rfl, Evl.ex_l e010 ha, by omega, fun _ o v H11 rm e11 iv => ?_, fun z => by omega⟩
    have e011 := e010.trans e11
    have d11 := e11 _ _ d10
    -- most = greatest - least + 1
    refine ⟨fun σ' H' => ∃ v10, σ' = [some (.ref a), some (.int c), some (.int wd), some (.int (sw ts).1), some (.int (sw ts).2.1), some (.ref D), some (.int most), some (.ref P), some (.ref Z), some v, v10, none, none, none] ∧ Ex H11 H', ?_, ?_⟩
    · refine ⟨_, rfl, _, rfl, _, rfl, _, _, rfl, rfl, _, _, rfl, rfl, rfl, _, rfl, ?_⟩
      rw [dec_int]
      refine ifB (fun f => ?_) (fun f => ?_)
      · have f' : most = (sw ts).2.1 - (sw ts).1 + 1 := of_decide_eq_true f
        have en : ((most.toNat : Nat) : Int) = most := by omega
        have tell := sizes_tell (n := most.toNat) rm (by omega) c0
        rw [show (most.toNat + 1) = (most + 1).toNat by omega] at tell
        refine ⟨fun v' H' => Ex H11 H' ∧ IsRm H' v' o, ?_, ?_⟩
        · refine ⟨_, rfl, (by show 0 ≤ sizeLine; decide), fun p12 H12 n12 e12 h12 => ?_⟩
          refine eqI_ (xs := sizesL ts c (most + 1).toNat) (ys := []) (sqI (e12 _ _ d11)) (sqI h12) ⟨_, rfl, ?_⟩
          have d12 := sqI (K := K) (e12 _ _ d11)
          rcases tell with ⟨rfl, z⟩ | ⟨m, l, rfl, z1, z2⟩ | ⟨m, q, l, rfl, z1, z2, z3⟩
          · rw [z]
            refine ifT rfl ?_
            exact ⟨e12, rfl⟩
          · have hd : atI (li (sizesL ts c (most + 1).toNat)) 0 = some (.int m) := atI_nat (j := 0) (by rw [li, List.getElem?_map, z1]; rfl)
            have hl : atI (li (sizesL ts c (most + 1).toNat)) (-1) = some (.int most) := by
              rw [z2, en]
              unfold li
              rw [List.map_append]
              exact atI_last _ _
            refine ifF (by rw [z2]; simp) ?_
            refine ⟨_, rfl, _, _, _, _, rfl, rfl, d12, hd, ?_⟩
            refine ⟨fun v' H' => H12 = H' ∧ v' = .non, ?_, ?_⟩
            · refine ⟨_, rfl, _, rfl, _, _, _, _, rfl, rfl, d12, hl, _, rfl, rfl, _, rfl, ?_⟩
              refine ifT (decide_eq_true rfl) ?_
              exact ⟨rfl, rfl⟩
            · rintro v' H' ⟨rfl, rfl⟩
              refine ⟨(by show 2 ≤ sizeLine; decide), fun p13 H13 n13 e13 h13 => ?_⟩
              exact ⟨e12.trans e13, p13, rfl, h13⟩
          · have hd : atI (li (sizesL ts c (most + 1).toNat)) 0 = some (.int m) := atI_nat (j := 0) (by rw [li, List.getElem?_map, z1]; rfl)
            have hl : atI (li (sizesL ts c (most + 1).toNat)) (-1) = some (.int q) := by
              rw [z2]
              unfold li
              rw [List.map_append]
              exact atI_last _ _
            refine ifF (by rw [z2]; simp) ?_
            refine ⟨_, rfl, _, _, _, _, rfl, rfl, d12, hd, ?_⟩
            refine ⟨fun v' H' => H12 = H' ∧ v' = .int q, ?_, ?_⟩
            · refine ⟨_, rfl, _, rfl, _, _, _, _, rfl, rfl, d12, hl, _, rfl, rfl, _, rfl, ?_⟩
              rw [dec_int]
              refine ifF (decide_eq_false (by omega)) ?_
              exact ⟨_, rfl, _, rfl, _, _, _, _, rfl, rfl, d12, hl, rfl, rfl⟩
            · rintro v' H' ⟨rfl, rfl⟩
              refine ⟨(by show 2 ≤ sizeLine; decide), fun p13 H13 n13 e13 h13 => ?_⟩
              exact ⟨e12.trans e13, p13, rfl, h13⟩
        · rintro v' H12 ⟨e12, iv'⟩
          refine ⟨_, rfl, _, rfl, neRm (iv.ex e12) iv' ⟨_, rfl, ifF rfl ?_⟩⟩
          exact ⟨_, rfl, e12⟩
      · exact ⟨_, rfl, Evl.Ex.refl _⟩
    rintro σ' H12 ⟨v10, rfl, e12⟩
    have e012 := e011.trans e12
    have d212 : H12 D = some (.lst (li (scL wd ts))) := (e26.trans (e7.trans (e79.trans (e10.trans (e11.trans e12))))) _ _ d2
    refine ⟨_, rfl, _, rfl, _, _, rfl, rfl, wide_mul (a := 100) (b := 20) wb (by omega) (by decide) (by decide) (by decide), _, rfl, D, scL wd ts, wd * c, rfl, sqI d212, by rw [List.length_map]; omega, fun _ o' v' H13 rm' e13 iv' => ?_, fun z => by
      have : 0 ≤ wd * c := Int.mul_nonneg (by omega) c0
      omega⟩
    have eo := rm'.uniq (rm.mul w0 c0)
    subst eo
    have iv13 := iv.ex (e12.trans e13)
    have e013 := e012.trans e13
    have rm2 := rm
    have mb : ∀ m x, o = some (m, x) → m.natAbs < 2 ^ 20 := fun m x z => by
      rcases rm2 with ⟨y, _⟩ | ⟨m', y, _, l, me⟩ | ⟨m', n', y, _, l, r, me⟩
      · rw [z] at y
        cases y
      · rw [z] at y
        cases y
        have := l.1
        omega
      · rw [z] at y
        cases y
        have := l.1
        have := r.1
        have := l.le r.1 (by have := r.2.1; omega)
        omega
    have nb : ∀ m n, o = some (m, some n) → n.natAbs < 2 ^ 20 := fun m n z => by
      rcases rm2 with ⟨y, _⟩ | ⟨m', y, _, l, me⟩ | ⟨m', n', y, _, l, r, me⟩
      · rw [z] at y
        cases y
      · rw [z] at y
        cases y
      · rw [z] at y
        cases y
        have := r.1
        omega
    rcases o with _ | ⟨m, _ | n⟩
    · cases (show v = .non from iv13)
      cases (show v' = .non from iv')
      refine ⟨_, rfl, rfl, _, rfl, ?_⟩
      refine iteT ?_
      refine ⟨_, rfl, rfl, ?_⟩
      exact k H13 e013
    · obtain ⟨pv, rfl, hpv⟩ := iv13
      refine ⟨_, rfl, rfl, _, rfl, ?_⟩
      refine iteF ?_
      refine ⟨_, rfl, _, rfl, _, rfl, _, _, _, _, rfl, rfl, sqT hpv, at0, _, _, rfl, rfl, wide_mul (a := 100) (b := 20) wb (mb m none rfl) (by decide) (by decide) (by decide), ?_⟩
      refine ⟨fun v2 H' => H13 = H' ∧ v2 = .non, ?_, ?_⟩
      · refine ⟨_, rfl, _, _, _, _, rfl, rfl, sqT hpv, at1, rfl, _, rfl, ?_⟩
        refine ifT rfl ?_
        exact ⟨rfl, rfl⟩
      · rintro v2 H' ⟨rfl, rfl⟩
        refine ⟨(by show 2 ≤ sizeLine; decide), fun p14 H14 n14 e14 h14 => ?_⟩
        refine eqRm (o := some (wd * m, none)) (IsRm.ex e14 iv') ⟨p14, rfl, h14⟩ ?_
        exact k H14 (e013.trans e14)
    · obtain ⟨pv, rfl, hpv⟩ := iv13
      refine ⟨_, rfl, rfl, _, rfl, ?_⟩
      refine iteF ?_
      refine ⟨_, rfl, _, rfl, _, rfl, _, _, _, _, rfl, rfl, sqT hpv, at0, _, _, rfl, rfl, wide_mul (a := 100) (b := 20) wb (mb m (some n) rfl) (by decide) (by decide) (by decide), ?_⟩
      refine ⟨fun v2 H' => H13 = H' ∧ v2 = .int (wd * n), ?_, ?_⟩
      · refine ⟨_, rfl, _, _, _, _, rfl, rfl, sqT hpv, at1, rfl, _, rfl, ?_⟩
        refine ifF rfl ?_
        exact ⟨_, rfl, _, rfl, _, _, _, _, rfl, rfl, sqT hpv, at1, _, _, rfl, rfl, wide_mul (a := 100) (b := 20) wb (nb m n rfl) (by decide) (by decide) (by decide), rfl, rfl⟩
      · rintro v2 H' ⟨rfl, rfl⟩
        refine ⟨(by show 2 ≤ sizeLine; decide), fun p14 H14 n14 e14 h14 => ?_⟩
        refine eqRm (o := some (wd * m, some (wd * n))) (IsRm.ex e14 iv') ⟨p14, rfl, h14⟩ ?_
        exact k H14 (e013.trans e14)
end
end K38
set_option Elab.async false
set_option pp.maxSteps 1200
set_option linter.all false
set_option maxRecDepth 100000
set_option maxHeartbeats 4000000
namespace K38
open PySem L2 My
theorem ra_ex {ts us : List Int} {s x : Int} {o : Option (Int × Int)} (f : FirstDiff ts us s x) (h : RaIs ts us o) : o = some (s, x) := by
  rcases h with ⟨rfl, h⟩ | ⟨s', x', rfl, h, f', _⟩
  · exact absurd (same_form h f.1 f.2.1) f.2.2.2.2
  · obtain ⟨a, b⟩ := f'.uniq f
    rw [a, b]
def sp__law_great_right : Sp := fun vs H Q _ => ∃ (j : Addr) (B : Int), vs = [.ref j] ∧ Jug H j B ∧ B ≤ 2 ^ 50 ∧ ∀ H', Exj j H H' → Jug H' j (B + 5) → Q (.bl true) H'
section
variable {w : World} {K : PySem.W.Frag} {mg : Str → Option Value} {base : Heap}
theorem ok__law_great_right (T : Txt K mg) : FnOk PR w K mg base CX0 5 T.a__law_great_right T.d__law_great_right ["_law_jug_here"] sp__law_great_right := by
  refine T.f__law_great_right.ok sc__law_great_right (fun vs H Q E h => ?_) (fun cdv A outer s H vs Q E hr h => ?_)
  · obtain ⟨j, B, rfl, _⟩ := h
    rfl
  · obtain ⟨j, B, rfl, hj, hB, k⟩ := h
    refine ⟨_, (pss_cons (ps_cut (ps_par (by rfl) sc__law_great_right.nd rfl rfl (by decide) rfl rfl (i := 1) (j := 2) (pa_cons (pe_op op_add (pe_op op_powW pe_int pe_int) (pe_call (ok__law_pour T) (hr.mono (by decide)) (by rfl) T.g__law_pour T.f__law_pour.kp (b__law_pour T) .nil pass0 (pa_cons (pv 0) (pa_cons (pe_op op_powW pe_int pe_int) pa_nil)))) (pa_cons (pe_op op_add pe_int (pe_call (ok__law_pour T) (hr.mono (by decide)) (by rfl) T.g__law_pour T.f__law_pour.kp (b__law_pour T) .nil pass0 (pa_cons (pv 0) (pa_cons (pe_op op_powW pe_int pe_int) pa_nil)))) pa_nil)) (by rfl))) (pss_cons (ps_if (PW.pt (pw_or (pt_cmpR (op_neD hr.units) (pe_call (ok_room_apart T) (hr.mono (by decide)) (by rfl) T.g_room_apart T.f_room_apart.kp (b_room_apart T) .nil pass0 (pa_cons (pe_lstG (pa_cons (pv 1) pa_nil)) (pa_cons (pe_lstG (pa_cons (pe_op op_sub (pv 1) pe_int) pa_nil)) pa_nil))) (pe_tupG (pa_cons (pv 1) (pa_cons pe_int pa_nil))) (nomark _)) (pw_or1 (pt_cmpR (op_neD hr.units) (pe_call (ok_room_apart T) (hr.mono (by decide)) (by rfl) T.g_room_apart T.f_room_apart.kp (b_room_apart T) .nil pass0 (pa_cons (pe_lstG (pa_cons (pe_op op_sub pe_int (pv 1)) pa_nil)) (pa_cons (pe_lstG (pa_cons (pe_op op_sub pe_int (pv 1)) pa_nil)) pa_nil))) (pe_tupG (pa_cons (pv 1) (pa_cons (pv 1) pa_nil))) (nomark _))))) (pss_one (ps_ret pe_bl)) pss_nil) (pss_cons (ps_if (pt_cmpR (op_neD hr.units) (pe_call (ok_room_apart T) (hr.mono (by decide)) (by rfl) T.g_room_apart T.f_room_apart.kp (b_room_apart T) .nil pass0 (pa_cons (pe_lstG (pa_cons (pv 1) (pa_cons (pe_op op_sub pe_int (pv 2)) pa_nil))) (pa_cons (pe_lstG (pa_cons (pv 1) (pa_cons (pe_op op_sub (pe_op op_sub pe_int (pv 2)) pe_int) pa_nil))) pa_nil))) (pe_tupG (pa_cons (pe_op op_add (pv 2) pe_int) (pa_cons pe_int pa_nil))) (nomark _)) (pss_one (ps_ret pe_bl)) pss_nil) (pss_cons (ps_if (pt_cmpR (op_neD hr.units) (pe_call (ok_room_apart T) (hr.mono (by decide)) (by rfl) T.g_room_apart T.f_room_apart.kp (b_room_apart T) .nil pass0 (pa_cons (pe_lstG (pa_cons (pe_op op_sub pe_int (pv 1)) (pa_cons (pv 2) pa_nil))) (pa_cons (pe_lstG (pa_cons (pe_op op_sub pe_int (pv 1)) (pa_cons (pe_op op_add (pv 2) pe_int) pa_nil))) pa_nil))) (pe_tupG (pa_cons (pe_op op_add (pv 2) pe_int) (pa_cons pe_int pa_nil))) (nomark _)) (pss_one (ps_ret pe_bl)) pss_nil) (pss_cons (ps_if (pt_cmpR (op_neD hr.units) (pe_call (ok_room_apart T) (hr.mono (by decide)) (by rfl) T.g_room_apart T.f_room_apart.kp (b_room_apart T) .nil pass0 (pa_cons (pe_lstG (pa_cons (pv 2) (pa_cons (pe_op op_sub pe_int (pv 1)) pa_nil))) (pa_cons (pe_lstG (pa_cons (pe_op op_add (pv 2) pe_int) (pa_cons (pe_op op_sub pe_int (pv 1)) pa_nil))) pa_nil))) (pe_tupG (pa_cons (pe_op op_add (pv 1) pe_int) (pa_cons (pe_op op_sub (pv 1) (pv 2)) pa_nil))) (nomark _)) (pss_one (ps_ret pe_bl)) pss_nil) (pss_cons (ps_if (PW.pt (pw_or (pt_cmpR (op_neD hr.units) (pe_call (ok_rooms_for T) (hr.mono (by decide)) (by rfl) T.g_rooms_for T.f_rooms_for.kp (b_rooms_for T) .nil passL (pa_cons (pe_lstG (pa_cons (pv 1) (pa_cons (pe_op op_sub pe_int (pv 2)) pa_nil))) (pa_cons pe_int pa_nil))) (pe_tupG (pa_cons (pe_op op_add (pv 2) pe_int) (pa_cons (pe_op op_add (pv 2) pe_int) pa_nil))) (nomark _)) (pw_or1 (pt_cmpR (op_neD hr.units) (pe_call (ok_rooms_for T) (hr.mono (by decide)) (by rfl) T.g_rooms_for T.f_rooms_for.kp (b_rooms_for T) .nil passL (pa_cons (pe_lstG (pa_cons (pv 2) (pa_cons (pe_op op_sub pe_int (pv 1)) pa_nil))) (pa_cons pe_int pa_nil))) (pe_tupG (pa_cons pe_int (pa_cons pe_non pa_nil))) (nomark _))))) (pss_one (ps_ret pe_bl)) pss_nil) (pss_one (ps_ret (pe_and (pe_cmpR (op_eqD hr.units) (pe_call (ok_rooms_for T) (hr.mono (by decide)) (by rfl) T.g_rooms_for T.f_rooms_for.kp (b_rooms_for T) .nil passL (pa_cons (pe_lstG (pa_cons (pv 1) (pa_cons (pe_op op_sub pe_int (pv 2)) pa_nil))) (pa_cons (pe_op op_sub (pv 1) (pv 2)) pa_nil))) (pe_tupG (pa_cons (pv 1) (pa_cons pe_non pa_nil))) (nomark _)) (pe_one (pe_cmpR op_isN (pe_call (ok_rooms_for T) (hr.mono (by decide)) (by rfl) T.g_rooms_for T.f_rooms_for.kp (b_rooms_for T) .nil passL (pa_cons (pe_lstG (pa_cons (pv 1) pa_nil)) (pa_cons (pe_op op_add (pv 1) pe_int) pa_nil))) pe_non (nomark _)))))))))))), ?_⟩
    have t29 : ((10 : Int) ^ (29 : Int).toNat) = 100000000000000000000000000000 := by decide +kernel
    have t28 : ((10 : Int) ^ (28 : Int).toNat) = 10000000000000000000000000000 := by decide +kernel
    have c29 : CPowW 10 29 := by constructor <;> decide +kernel
    have c28 : CPowW 10 28 := by constructor <;> decide +kernel
    refine ⟨fun σ' H' => ∃ F L : Int, σ' = [some (.ref j), some (.int F), some (.int L)] ∧ Exj j H H' ∧ Jug H' j (B + 2) ∧ 1 ≤ L ∧ L + 2 ≤ F ∧ 4 ≤ F - L, ?_, ?_⟩
    · refine ⟨_, _, rfl, rfl, c29, _, rfl, _, _, rfl, rfl, c29, j, _, B, rfl, hj, by omega, by omega, by omega, fun d1 H1 d10 d11 x1 j1 => ?_⟩
      refine ⟨_, _, rfl, rfl, _, rfl, _, _, rfl, rfl, c28, j, _, _, rfl, j1, by omega, by omega, by omega, fun d2 H2 d20 d21 x2 j2 => ?_⟩
      refine ⟨_, _, rfl, rfl, _, _, rfl, ?_⟩
      exact ⟨_, _, rfl, x1.trans x2, j2.mono (by omega), by omega, by omega, by omega⟩
    clear t29 t28 c29 c28
    rintro σ' H2 ⟨F, L, rfl, y2, j2, hL1, hFL, hFL4⟩
    -- 1
    refine ⟨_, rfl, (by show 1 ≤ sizeLine; decide), fun p1 H3 n3 e3 h3 => ?_⟩
    refine ⟨_, rfl, _, _, rfl, rfl, (by show 1 ≤ sizeLine; decide), fun p2 H4 n4 e4 h4 => ?_⟩
    refine ⟨p1, p2, [F], [F - 1], rfl, sqI (e4 _ _ h3), sqI h4, by simp, by simp, fun o v H5 ra e5 ap => ?_⟩
    cases ra_ex (ex1 hL1 hFL) ra
    refine ⟨_, rfl, (by show 2 ≤ sizeLine; decide), fun p3 H6 n6 e6 h6 => ?_⟩
    refine neAp (ap.ex e6) ⟨p3, rfl, h6⟩ ⟨_, rfl, ifF rfl ?_⟩
    have e26 := e3.trans (e4.trans (e5.trans e6))
    clear ap ra h3 h4 h6
    -- 2
    refine ⟨_, rfl, _, _, rfl, rfl, (by show 1 ≤ sizeLine; decide), fun p1 H7 n7 e7 h7 => ?_⟩
    refine ⟨_, rfl, _, _, rfl, rfl, (by show 1 ≤ sizeLine; decide), fun p2 H8 n8 e8 h8 => ?_⟩
    refine ⟨p1, p2, [1 - F], [0 - F], rfl, sqI (e8 _ _ h7), sqI h8, by simp, by simp, fun o v H9 ra e9 ap => ?_⟩
    cases ra_ex (ex2 hL1 hFL) ra
    refine ⟨_, rfl, _, rfl, (by show 2 ≤ sizeLine; decide), fun p3 H10 n10 e10 h10 => ?_⟩
    refine neAp (ap.ex e10) ⟨p3, rfl, h10⟩ ⟨_, rfl, ifF rfl ?_⟩
    have e210 := e26.trans (e7.trans (e8.trans (e9.trans e10)))
    clear ap ra h7 h8 h10
    -- 3
    refine ⟨_, rfl, _, rfl, _, _, rfl, rfl, (by show 2 ≤ sizeLine; decide), fun p1 H11 n11 e11 h11 => ?_⟩
    refine ⟨_, rfl, _, rfl, _, _, rfl, rfl, _, _, rfl, rfl, (by show 2 ≤ sizeLine; decide), fun p2 H12 n12 e12 h12 => ?_⟩
    refine ⟨p1, p2, [F, 0 - L], [F, 0 - L - 1], rfl, sqI (e12 _ _ h11), sqI h12, by simp, by simp, fun o v H13 ra e13 ap => ?_⟩
    cases ra_ex (ex3 hL1 hFL) ra
    refine ⟨_, rfl, _, _, rfl, rfl, (by show 2 ≤ sizeLine; decide), fun p3 H14 n14 e14 h14 => ?_⟩
    refine neAp (ap.ex e14) ⟨p3, rfl, h14⟩ ⟨_, rfl, ifF rfl ?_⟩
    have e214 := e210.trans (e11.trans (e12.trans (e13.trans e14)))
    clear ap ra h11 h12 h14
    -- 4
    refine ⟨_, rfl, _, _, rfl, rfl, _, rfl, (by show 2 ≤ sizeLine; decide), fun p1 H15 n15 e15 h15 => ?_⟩
    refine ⟨_, rfl, _, _, rfl, rfl, _, rfl, _, _, rfl, rfl, (by show 2 ≤ sizeLine; decide), fun p2 H16 n16 e16 h16 => ?_⟩
    refine ⟨p1, p2, [0 - F, L], [0 - F, L + 1], rfl, sqI (e16 _ _ h15), sqI h16, by simp, by simp, fun o v H17 ra e17 ap => ?_⟩
    cases ra_ex (ex4 hL1 hFL) ra
    refine ⟨_, rfl, _, _, rfl, rfl, (by show 2 ≤ sizeLine; decide), fun p3 H18 n18 e18 h18 => ?_⟩
    refine neAp (ap.ex e18) ⟨p3, rfl, h18⟩ ⟨_, rfl, ifF rfl ?_⟩
    have e218 := e214.trans (e15.trans (e16.trans (e17.trans e18)))
    clear ap ra h15 h16 h18
    -- 5
    refine ⟨_, rfl, _, rfl, _, _, rfl, rfl, (by show 2 ≤ sizeLine; decide), fun p1 H19 n19 e19 h19 => ?_⟩
    refine ⟨_, rfl, _, _, rfl, rfl, _, rfl, _, _, rfl, rfl, (by show 2 ≤ sizeLine; decide), fun p2 H20 n20 e20 h20 => ?_⟩
    refine ⟨p1, p2, [L, 0 - F], [L + 1, 0 - F], rfl, sqI (e20 _ _ h19), sqI h20, by simp, by simp, fun o v H21 ra e21 ap => ?_⟩
    cases ra_ex (ex5 hL1 hFL) ra
    refine ⟨_, rfl, _, _, rfl, rfl, _, rfl, _, rfl, _, _, rfl, rfl, (by show 2 ≤ sizeLine; decide), fun p3 H22 n22 e22 h22 => ?_⟩
    refine neAp (ap.ex e22) ⟨p3, rfl, h22⟩ ⟨_, rfl, ifF rfl ?_⟩
    have e222 := e218.trans (e19.trans (e20.trans (e21.trans e22)))
    clear ap ra h19 h20 h22
    -- rooms
    refine ⟨_, rfl, _, rfl, _, _, rfl, rfl, (by show 2 ≤ sizeLine; decide), fun p1 H23 n23 e23 h23 => ?_⟩
    refine ⟨p1, [F, 0 - L], 3, rfl, sqI h23, by simp, fun _ o v H24 rm e24 iv => ?_, fun z => absurd z (by decide)⟩
    cases rm.uniq (ex6 hL1 hFL hFL4)
    refine ⟨_, rfl, _, _, rfl, rfl, _, rfl, _, _, rfl, rfl, (by show 2 ≤ sizeLine; decide), fun p2 H25 n25 e25 h25 => ?_⟩
    refine neRm (iv.ex e25) (o := some (L + 3, some (L + 3))) ⟨p2, rfl, h25⟩ ⟨_, rfl, ifF rfl ?_⟩
    have e225 := e222.trans (e23.trans (e24.trans e25))
    clear rm iv h23 h25
    refine ⟨_, rfl, _, rfl, _, _, rfl, rfl, (by show 2 ≤ sizeLine; decide), fun p1 H26 n26 e26' h26 => ?_⟩
    refine ⟨p1, [L, 0 - F], 0, rfl, sqI h26, by simp, fun _ o v H27 rm e27 iv => ?_, fun z => absurd z (by decide)⟩
    cases rm.uniq (ex7 hL1 hFL)
    refine ⟨(by show 2 ≤ sizeLine; decide), fun p2 H28 n28 e28 h28 => ?_⟩
    refine neRm (iv.ex e28) (o := some (0, none)) ⟨p2, rfl, h28⟩ ⟨_, rfl, ifF rfl ?_⟩
    have e228 := e225.trans (e26'.trans (e27.trans e28))
    clear rm iv h26 h28
    refine ⟨_, rfl, _, rfl, _, _, rfl, rfl, (by show 2 ≤ sizeLine; decide), fun p1 H29 n29 e29 h29 => ?_⟩
    refine ⟨_, rfl, _, rfl, _, _, rfl, rfl, p1, [F, 0 - L], F - L, rfl, sqI h29, by simp, fun _ o v H30 rm e30 iv => ?_, fun z => by omega⟩
    cases rm.uniq (ex8 hL1 hFL)
    refine ⟨_, rfl, (by show 2 ≤ sizeLine; decide), fun p2 H31 n31 e31 h31 => ?_⟩
    refine eqRm (iv.ex e31) (o := some (F, none)) ⟨p2, rfl, h31⟩ ⟨_, rfl, ifT rfl ?_⟩
    have e231 := e228.trans (e29.trans (e30.trans e31))
    clear rm iv h29 h31
    refine ⟨_, rfl, (by show 1 ≤ sizeLine; decide), fun p1 H32 n32 e32 h32 => ?_⟩
    refine ⟨_, rfl, _, _, rfl, rfl, p1, [F], F + 1, rfl, sqI h32, by simp, fun _ o v H33 rm e33 iv => ?_, fun z => by omega⟩
    cases rm.uniq (ex9 hL1 hFL)
    cases (show v = .non from iv)
    refine ⟨rfl, ?_⟩
    have e233 := e231.trans (e32.trans e33)
    exact k H33 (y2.trans (Exj.of e233)) ((j2.ex e233).mono (by omega))
end
end K38
set_option Elab.async false
set_option pp.maxSteps 1200
set_option linter.all false
set_option maxRecDepth 100000
set_option maxHeartbeats 4000000
namespace K38
open PySem L2 My
theorem cut_two (xs : List V) (a b : Nat) : cutV xs (some (a : Int)) (some (b : Int)) = (xs.take b).drop a := by
  unfold cutV
  rw [HT.sIx_nat, HT.sIx_nat, List.drop_take]
  by_cases h : a ≤ xs.length
  · rw [Nat.min_eq_left h]
    by_cases h2 : b ≤ xs.length
    · rw [Nat.min_eq_left h2]
    · rw [Nat.min_eq_right (by omega), List.take_of_length_le (by rw [List.length_drop]; omega), List.take_of_length_le (by rw [List.length_drop]; omega)]
  · rw [Nat.min_eq_right (show xs.length ≤ a by omega), List.drop_eq_nil_of_le (Nat.le_refl _), List.drop_eq_nil_of_le (show xs.length ≤ a by omega), List.take_nil, List.take_nil]
theorem form_zero (xs ys : List Int) : form (xs ++ [0] ++ ys) = form (xs ++ ys) := by
  unfold form stk
  rw [List.foldl_append, List.foldl_append, List.foldl_append, List.foldl_cons, List.foldl_nil, add_zero]
theorem exj_ex {H H1 H2 : Hp} {j : Addr} (e : Ex H H1) (n : H j = none) (x : Exj j H1 H2) : Ex H H2 := fun b o h => x b o (ne_of_none h n) (e b o h)
theorem sel3 {x y z : Int} {n : Int} (h0 : 0 ≤ n) (h1 : n < 3) : ∃ v, atI [V.int x, V.int y, V.int z] n = some (V.int v) ∧ (v = x ∨ v = y ∨ v = z) := by
  have : n = 0 ∨ n = 1 ∨ n = 2 := by omega
  rcases this with rfl | rfl | rfl
  · exact ⟨x, at0, .inl rfl⟩
  · exact ⟨y, at1, .inr (.inl rfl)⟩
  · exact ⟨z, at2, .inr (.inr rfl)⟩
theorem selP {u0 u1 u2 : V} {i : Int} {P : V → Prop} (h0 : 0 ≤ i) (h1 : i < 3) (p0 : P u0) (p1 : P u1) (p2 : P u2) : ∃ x, atI [u0, u1, u2] i = some x ∧ P x := by
  rcases (show i = 0 ∨ i = 1 ∨ i = 2 by omega) with e | e | e
  · subst e
    exact ⟨u0, at0, p0⟩
  · subst e
    exact ⟨u1, at1, p1⟩
  · subst e
    exact ⟨u2, at2, p2⟩
def sp_law (K : PySem.W.Frag) : Sp := fun vs H Q _ => ∃ (a : Addr) (ns : List Int), vs = [.ref a] ∧ SqL K H a (ns.map V.int) ∧ ns.length ≤ 63 ∧ ∀ H', Q (.bl true) H'
section
variable {w : World} {K : PySem.W.Frag} {mg : Str → Option Value} {base : Heap}
theorem ok_law (T : Txt K mg) : FnOk PR w K mg base CX0 6 T.a_law T.d_law ["_law_script"] (sp_law K) := by
  refine T.f_law.ok sc_law (fun vs H Q E h => ?_) (fun cdv A outer s H vs Q E hr h => ?_)
  · obtain ⟨a, ns, rfl, _⟩ := h
    rfl
  · obtain ⟨a, ns, rfl, hs, hl, k⟩ := h
    refine ⟨_, (pss_cons (ps_for PassesOwn.never rfl (pi_range1 (by rfl) T.z_range (pa_cons (pe_callB (call_max2 rfl) (by rfl) T.z_max (by decide +kernel) (pa_cons pe_int (pa_cons (pe_callB (call_min2 rfl) (by rfl) T.z_min (by decide +kernel) (pa_cons pe_int (pa_cons (pe_callB call_len_seq (by rfl) T.z_len PySem.boot_len (pa_cons (pv 0) pa_nil)) pa_nil))) pa_nil))) pa_nil)) (pg_name (i := 1) sc_law.nd rfl (by first | exact Or.inl rfl | exact Or.inr rfl)) (pss_cons (ps_set (i := 2) sc_law.nd rfl (by first | exact Or.inl rfl | exact Or.inr rfl) (pe_call (ok__law_jug T) (hr.mono (by decide)) (by rfl) T.g__law_jug T.f__law_jug.kp (b__law_jug T) .nil pass0 (pa_cons (pv 0) (pa_cons (pv 1) pa_nil)))) (pss_cons (ps_set (i := 3) sc_law.nd rfl (by first | exact Or.inl rfl | exact Or.inr rfl) (pe_ix ix_list (pe_lstG (pa_cons pe_int (pa_cons (pe_op op_add pe_int (pe_call (ok__law_pour T) (hr.mono (by decide)) (by rfl) T.g__law_pour T.f__law_pour.kp (b__law_pour T) .nil pass0 (pa_cons (pv 2) (pa_cons pe_int pa_nil)))) (pa_cons (pe_op op_add pe_int (pe_call (ok__law_pour T) (hr.mono (by decide)) (by rfl) T.g__law_pour T.f__law_pour.kp (b__law_pour T) .nil pass0 (pa_cons (pv 2) (pa_cons (pe_op op_powW pe_int pe_int) pa_nil)))) pa_nil)))) (pe_call (ok__law_pour T) (hr.mono (by decide)) (by rfl) T.g__law_pour T.f__law_pour.kp (b__law_pour T) .nil pass0 (pa_cons (pv 2) (pa_cons pe_int pa_nil))) (fun _ _ => rfl))) (pss_cons (ps_par (by rfl) sc_law.nd rfl rfl (by decide) rfl rfl (i := 4) (j := 5) (pa_cons (pe_call (ok__law_turns T) (hr.mono (by decide)) (by rfl) T.g__law_turns T.f__law_turns.kp (b__law_turns T) .nil pass0 (pa_cons (pv 2) (pa_cons pe_int (pa_cons pe_int pa_nil)))) (pa_cons (pe_call (ok__law_turns T) (hr.mono (by decide)) (by rfl) T.g__law_turns T.f__law_turns.kp (b__law_turns T) .nil pass0 (pa_cons (pv 2) (pa_cons pe_int (pa_cons pe_int pa_nil)))) pa_nil)) (by rfl)) (pss_cons (ps_cut (ps_if (pt_cmpR op_eq (pe_call (ok__law_pour T) (hr.mono (by decide)) (by rfl) T.g__law_pour T.f__law_pour.kp (b__law_pour T) .nil pass0 (pa_cons (pv 2) (pa_cons pe_int pa_nil))) pe_int (nomark _)) (pss_cons (ps_par (by rfl) sc_law.nd rfl rfl (by decide) rfl rfl (i := 6) (j := 7) (pa_cons (pe_call (ok__law_pour T) (hr.mono (by decide)) (by rfl) T.g__law_pour T.f__law_pour.kp (b__law_pour T) .nil pass0 (pa_cons (pv 2) (pa_cons (pe_op op_add (pe_callB call_len_seq (by rfl) T.z_len PySem.boot_len (pa_cons (pe_slice sl_listG (pv 4) po_none (po_some pe_int)) pa_nil)) pe_int) pa_nil))) (pa_cons (pe_op op_sub (pe_call (ok__law_pour T) (hr.mono (by decide)) (by rfl) T.g__law_pour T.f__law_pour.kp (b__law_pour T) .nil pass0 (pa_cons (pv 2) (pa_cons pe_int pa_nil))) pe_int) pa_nil)) (by rfl)) (pss_one (ps_set (i := 5) sc_law.nd rfl (by first | exact Or.inl rfl | exact Or.inr rfl) (pe_op op_catG (pe_op op_catG (pe_slice sl_listG (pe_slice sl_listG (pv 4) po_none (po_some pe_int)) po_none (po_some (pv 6))) (pe_ix ix_list (pe_lstG (pa_cons (pe_lstG (pa_cons pe_int pa_nil)) (pa_cons (pe_lstG (pa_cons (pv 7) pa_nil)) (pa_cons (pe_lstG (pa_cons (pv 7) (pa_cons (pe_op op_sub pe_int (pv 7)) pa_nil))) pa_nil)))) (pe_call (ok__law_pour T) (hr.mono (by decide)) (by rfl) T.g__law_pour T.f__law_pour.kp (b__law_pour T) .nil pass0 (pa_cons (pv 2) (pa_cons pe_int pa_nil))) (fun _ _ => rfl))) (pe_slice sl_listG (pe_slice sl_listG (pv 4) po_none (po_some pe_int)) (po_some (pv 6)) po_none))))) pss_nil)) (pss_cons (ps_if (PW.pt (pw_or (pt_not (pt_val (pe_call (ok__law_apart_right T) (hr.mono (by decide)) (by rfl) T.g__law_apart_right T.f__law_apart_right.kp (b__law_apart_right T) .nil pass0 (pa_cons (pv 4) (pa_cons (pv 5) (pa_cons (pv 3) pa_nil)))))) (pw_or1 (pt_cmpR op_notN (pe_call (ok_room_apart T) (hr.mono (by decide)) (by rfl) T.g_room_apart T.f_room_apart.kp (b_room_apart T) .nil pass0 (pa_cons (pe_slice sl_listG (pv 4) po_none (po_some pe_int)) (pa_cons (pe_op op_catG (pe_op op_catG (pe_slice sl_listG (pv 4) po_none (po_some pe_int)) (pe_lstG (pa_cons pe_int pa_nil))) (pe_slice sl_listG (pv 4) (po_some pe_int) (po_some pe_int))) pa_nil))) pe_non (nomark _))))) (pss_one (ps_ret pe_bl)) pss_nil) (pss_cons (ps_set (i := 8) sc_law.nd rfl (by first | exact Or.inl rfl | exact Or.inr rfl) (pe_op op_sub (pe_call (ok__law_pour T) (hr.mono (by decide)) (by rfl) T.g__law_pour T.f__law_pour.kp (b__law_pour T) .nil pass0 (pa_cons (pv 2) (pa_cons pe_int pa_nil))) pe_int)) (pss_cons (ps_if (pt_cmpR op_ne (pe_call (ok__law_refused T) (hr.mono (by decide)) (by rfl) T.g__law_refused T.f__law_refused.kp (b__law_refused T) .nil pass0 (pa_cons (pv 4) (pa_cons (pv 8) pa_nil))) (pe_cut (pe_ifExp (pt_cmpR op_lt (pv 8) pe_int (nomark _)) (pv 8) pe_non)) (nomark _)) (pss_one (ps_ret pe_bl)) pss_nil) (pss_cons (ps_if (pt_cmpR op_ne (pe_call (ok__law_refused T) (hr.mono (by decide)) (by rfl) T.g__law_refused T.f__law_refused.kp (b__law_refused T) .nil pass0 (pa_cons (pv 4) (pa_cons (pe_op op_sub pe_int (pe_op op_powW pe_int pe_int)) pa_nil))) (pe_op op_sub pe_int (pe_op op_powW pe_int pe_int)) (nomark _)) (pss_one (ps_ret pe_bl)) pss_nil) (pss_cons (ps_if (PW.pt (pw_or (pt_not (pt_val (pe_call (ok__law_rooms_right T) (hr.mono (by decide)) (by rfl) T.g__law_rooms_right T.f__law_rooms_right.kp (b__law_rooms_right T) .nil pass0 (pa_cons (pv 4) (pa_cons (pe_callB (call_max2 rfl) (by rfl) T.z_max (by decide +kernel) (pa_cons pe_int (pa_cons (pv 8) pa_nil))) (pa_cons (pv 3) pa_nil)))))) (pw_or1 (pt_not (pt_val (pe_call (ok__law_rooms_right T) (hr.mono (by decide)) (by rfl) T.g__law_rooms_right T.f__law_rooms_right.kp (b__law_rooms_right T) .nil pass0 (pa_cons (pv 5) (pa_cons (pe_callB (call_max2 rfl) (by rfl) T.z_max (by decide +kernel) (pa_cons pe_int (pa_cons (pv 8) pa_nil))) (pa_cons (pv 3) pa_nil))))))))) (pss_one (ps_ret pe_bl)) pss_nil) (pss_one (ps_if (pt_not (pt_val (pe_call (ok__law_great_right T) (hr.mono (by decide)) (by rfl) T.g__law_great_right T.f__law_great_right.kp (b__law_great_right T) .nil pass0 (pa_cons (pv 2) pa_nil)))) (pss_one (ps_ret pe_bl)) pss_nil)))))))))))) (pss_one (ps_ret pe_bl))), ?_⟩
    refine ⟨_, rfl, _, _, rfl, .inl hs, _, _, rfl, _, _, rfl, ?_⟩
    have hN : ∃ N : Int, (if (if ((ns.map V.int).length : Int) < 3 then ((ns.map V.int).length : Int) else 3) > 1 then (if ((ns.map V.int).length : Int) < 3 then ((ns.map V.int).length : Int) else 3) else 1) = N ∧ 1 ≤ N ∧ N ≤ 3 := ⟨_, rfl, by split <;> omega, by split <;> split <;> omega⟩
    obtain ⟨N, eN, N1, N3⟩ := hN
    rw [eN]
    have t28 : ((10 : Int) ^ (28 : Int).toNat) = 10000000000000000000000000000 := by decide +kernel
    refine ⟨_, rfl, (by omega), (by omega), for_range (lo := 0) (n := N.toNat) (fun i σ H' => ∃ v1 v2 v3 v4 v5 v6 v7 v8, σ = [some (.ref a), v1, v2, v3, v4, v5, v6, v7, v8] ∧ Ex H H') ⟨_, _, _, _, _, _, _, _, rfl, Evl.Ex.refl _⟩ ?_ ?_⟩
    · rintro i σ H0 hi ⟨v1, v2, v3, v4, v5, v6, v7, v8, rfl, e0⟩
      refine ⟨_, rfl, _, rfl, a, ns, _, rfl, Evl.ex_l e0 hs, by omega, by omega, fun j H1 nj e1 j1 => ?_⟩
      have njH : H j = none := Evl.fresh_back e0 nj
      -- width
      refine ⟨_, rfl, j, _, _, rfl, j1, by decide, by decide, by decide, fun d1 H2 d10 d11 x2 j2 => ?_⟩
      refine ⟨_, _, rfl, rfl, _, rfl, _, _, rfl, rfl, (show CPowW 10 28 by constructor <;> decide +kernel), j, _, _, rfl, j2, by decide, by omega, by omega, fun d2 H3 d20 d21 x3 j3 => ?_⟩
      refine ⟨_, _, rfl, rfl, (by show 3 ≤ sizeLine; decide), fun p4 H4 n4 e4 h4 => ?_⟩
      refine ⟨_, rfl, j, _, _, rfl, j3.ex e4, by decide, by decide, by decide, fun d3 H5 d30 d31 x5 j5 => ?_⟩
      have n4j : p4 ≠ j := j3.ne n4
      obtain ⟨wd, hwd, ewd⟩ := sel3 (x := 1) (y := 2 + d1) (z := 1 + d2) d30 d31
      refine ⟨_, _, _, _, rfl, rfl, sqI (x5 _ _ n4j h4), hwd, ?_⟩
      have wd0 : 1 ≤ wd := by omega
      have wd1 : wd < 2 ^ 100 := by omega
      have x15 : Exj j H1 H5 := x2.trans (x3.trans ((Exj.of e4).trans x5))
      -- turns
      refine ⟨_, rfl, j, 6, 4, _, rfl, j5, by decide, by decide, by decide, by decide, by decide, fun pa H7 ts n7 x7 j7 h7 l7 b7 => ?_⟩
      have npa : pa ≠ j := j5.ne n7
      refine ⟨_, rfl, j, 6, 4, _, rfl, j7, by decide, by decide, by decide, by decide, by decide, fun pb0 H8 us0 n8 x8 j8 h8 l8 b8 => ?_⟩
      have npb : pb0 ≠ j := j7.ne n8
      refine ⟨_, _, rfl, ?_⟩
      have ha8 := x8 _ _ npa h7
      have x18 : Exj j H1 H8 := x15.trans (x7.trans x8)
      refine ⟨fun σ' H' => ∃ (pb : Addr) (us : List Int) (w6 w7 : Option V), σ' = [some (.ref a), some (.int (0 + (i : Int))), some (.ref j), some (.int wd), some (.ref pa), some (.ref pb), w6, w7, v8] ∧ Exj j H8 H' ∧ Jug H' j 2000 ∧ H' pb = some (.lst (li us)) ∧ us.length ≤ 100 ∧ (∀ t ∈ us, -100 ≤ t ∧ t ≤ 100) ∧ pb ≠ j, ?_, ?_⟩
      · refine ⟨_, rfl, j, _, _, rfl, j8, by decide, by decide, by decide, fun d4 K1 d40 d41 y1 k1 => ?_⟩
        refine ⟨rfl, _, rfl, ?_⟩
        have ha1 := y1 _ _ npa ha8
        refine ifB (fun q => ?_) (fun q => ?_)
        · refine ⟨_, rfl, _, rfl, _, rfl, _, _, rfl, sqI ha1, fun p2 K2 m2 z2 g2 => ?_⟩
          rw [show (20 : Int) = ((20 : Nat) : Int) from rfl, cut_to] at g2
          have g2 : K2 p2 = some (.lst (li (ts.take 20))) := by
            rw [g2]
            unfold li
            rw [List.map_take]
          have l20 : (ts.take 20).length ≤ 20 := by rw [List.length_take]; exact Nat.min_le_left _ _
          have ll : ((li (ts.take 20)).length : Int) ≤ 20 := by rw [List.length_map]; omega
          refine ⟨_, _, rfl, .inl (sqI g2), _, _, rfl, rfl, j, _, _, rfl, k1.ex z2, by decide, by omega, by omega, fun spot K3 s0 s1 y3 k3 => ?_⟩
          refine ⟨_, rfl, j, _, _, rfl, k3, by decide, by decide, by decide, fun nu K4 nu0 nu1 y4 k4 => ?_⟩
          refine ⟨_, _, rfl, rfl, _, _, rfl, ?_⟩
          have y14 : Exj j K1 K4 := (Exj.of z2).trans (y3.trans y4)
          have ha4 := y14 _ _ npa ha1
          -- other
          refine ⟨_, rfl, _, rfl, _, _, rfl, sqI ha4, fun p5 K5 m5 z5 g5 => ?_⟩
          rw [show (20 : Int) = ((20 : Nat) : Int) from rfl, cut_to] at g5
          have g5 : K5 p5 = some (.lst (li (ts.take 20))) := by
            rw [g5]
            unfold li
            rw [List.map_take]
          have es : spot = ((spot.toNat : Nat) : Int) := by omega
          refine ⟨_, rfl, _, rfl, _, _, rfl, sqI g5, fun p6 K6 m6 z6 g6 => ?_⟩
          rw [es, cut_to] at g6
          have g6 : K6 p6 = some (.lst (li ((ts.take 20).take spot.toNat))) := by
            rw [g6]
            simp only [li, List.map_take]
          refine ⟨(by show 1 ≤ sizeLine; decide), fun p7 K7 m7 z7 g7 => ?_⟩
          refine ⟨_, rfl, (by show 1 ≤ sizeLine; decide), fun p8 K8 m8 z8 g8 => ?_⟩
          refine ⟨_, rfl, _, rfl, _, _, rfl, rfl, (by show 2 ≤ sizeLine; decide), fun p9 K9 m9 z9 g9 => ?_⟩
          refine ⟨(by show 3 ≤ sizeLine; decide), fun p10 K10 m10 z10 g10 => ?_⟩
          have z710 := z8.trans (z9.trans z10)
          have z410 := z5.trans (z6.trans (z7.trans z710))
          have k10 := k4.ex z410
          have p10j : p10 ≠ j := (k4.ex (z5.trans (z6.trans (z7.trans (z8.trans z9))))).ne m10
          have p6j : p6 ≠ j := (k4.ex z5).ne m6
          refine ⟨_, rfl, j, _, _, rfl, k10, by decide, by decide, by decide, fun d5 K11 d50 d51 y11 k11 => ?_⟩
          have hP : ∀ (p : Addr) (ms : List Int), K10 p = some (.lst (li ms)) → p ≠ j → ms.length ≤ 2 → (∀ t ∈ ms, -100 ≤ t ∧ t ≤ 100) → ∃ q ms, V.ref p = .ref q ∧ K11 q = some (.lst (li ms)) ∧ ms.length ≤ 2 ∧ ∀ t ∈ ms, -100 ≤ t ∧ t ≤ 100 := fun p ms h n l b => ⟨p, ms, rfl, y11 _ _ n h, l, b⟩
          obtain ⟨x, hx, pm, ms, rfl, hms, lms, bms⟩ := selP (P := fun v => ∃ q ms, v = .ref q ∧ K11 q = some (.lst (li ms)) ∧ ms.length ≤ 2 ∧ ∀ t ∈ ms, -100 ≤ t ∧ t ≤ 100) d50 d51
            (hP p7 [0] (z710 _ _ g7) ((k4.ex (z5.trans z6)).ne m7) (by decide) (fun t ht => by
              rw [List.mem_singleton.mp ht]
              omega))
            (hP p8 [nu - 3] ((z9.trans z10) _ _ g8) ((k4.ex (z5.trans (z6.trans z7))).ne m8) (by simp) (fun t ht => by
              rw [List.mem_singleton.mp ht]
              omega))
            (hP p9 [nu - 3, 0 - (nu - 3)] (z10 _ _ g9) ((k4.ex (z5.trans (z6.trans (z7.trans z8)))).ne m9) (by simp) (fun t ht => by
              simp only [List.mem_cons, List.not_mem_nil, or_false] at ht
              omega))
          clear hP
          have g6' := y11 _ _ p6j ((z7.trans z710) _ _ g6)
          have g10' := y11 _ _ p10j g10
          have lt6 : ((ts.take 20).take spot.toNat).length ≤ 20 := by
            rw [List.length_take]
            omega
          refine ⟨_, _, _, _, rfl, rfl, sqI g10', hx, _, _, _, _, rfl, rfl, g6', hms, ?_, fun p12 K12 m12 z12 g12 => ?_⟩
          · rw [List.length_map, List.length_map]
            exact Nat.le_trans (show _ + _ ≤ 22 from Nat.add_le_add lt6 lms) (by decide)
          have ha12 := z12 _ _ (y11 _ _ npa (z410 _ _ ha4))
          refine ⟨_, rfl, _, rfl, _, _, rfl, sqI ha12, fun p13 K13 m13 z13 g13 => ?_⟩
          rw [show (20 : Int) = ((20 : Nat) : Int) from rfl, cut_to] at g13
          have g13 : K13 p13 = some (.lst (li (ts.take 20))) := by
            rw [g13]
            unfold li
            rw [List.map_take]
          refine ⟨_, rfl, _, rfl, _, _, rfl, sqI g13, fun p14 K14 m14 z14 g14 => ?_⟩
          rw [es, cut_from] at g14
          have g14 : K14 p14 = some (.lst (li ((ts.take 20).drop spot.toNat))) := by
            rw [g14]
            simp only [li, List.map_drop, List.map_take]
          have lt14 : ((ts.take 20).drop spot.toNat).length ≤ 20 := by
            rw [List.length_drop]
            omega
          refine ⟨_, _, _, _, rfl, rfl, (z13.trans z14) _ _ g12, g14, ?_, fun p15 K15 m15 z15 g15 => ?_⟩
          · rw [List.length_append, List.length_map, List.length_map, List.length_map]
            exact Nat.le_trans (show _ + _ + _ ≤ 42 from Nat.add_le_add (Nat.add_le_add lt6 lms) lt14) (by decide)
          have g15 : K15 p15 = some (.lst (li ((ts.take 20).take spot.toNat ++ ms ++ (ts.take 20).drop spot.toNat))) := by
            rw [g15]
            unfold li
            rw [List.map_append, List.map_append]
          have yA : Exj j H8 K15 := y1.trans (y14.trans ((Exj.of z410).trans (y11.trans (Exj.of (z12.trans (z13.trans (z14.trans z15)))))))
          refine ⟨p15, _, _, _, rfl, yA, (k11.ex (z12.trans (z13.trans (z14.trans z15)))).mono (by omega), g15, ?_, fun t ht => ?_, (k11.ex (z12.trans (z13.trans z14))).ne m15⟩
          · rw [List.length_append, List.length_append]
            omega
          · rcases List.mem_append.mp ht with z | z
            · rcases List.mem_append.mp z with z | z
              · exact b7 t (List.mem_of_mem_take (List.mem_of_mem_take z))
              · exact bms t z
            · exact b7 t (List.mem_of_mem_take (List.mem_of_mem_drop z))
        · exact ⟨pb0, us0, _, _, rfl, y1, k1.mono (by omega), y1 _ _ npb h8, by omega, b8, npb⟩
      rintro σ' K0 ⟨pb, us, w6, w7, rfl, y0, k0, hb0, lb, bb, npb'⟩
      have ha0 := y0 _ _ npa ha8
      -- apart right
      refine ⟨_, rfl, _, rfl, _, rfl, pa, pb, ts, us, wd, rfl, sqI ha0, sqI hb0, by omega, lb, b7, bb, wd0, wd1, fun K1 z1 => ?_⟩
      refine ⟨_, rfl, ifF rfl ?_⟩
      have ha1 := z1 _ _ ha0
      refine ⟨_, rfl, _, rfl, _, _, rfl, sqI ha1, fun p2 K2 m2 z2 g2 => ?_⟩
      rw [show (59 : Int) = ((59 : Nat) : Int) from rfl, cut_to] at g2
      have g2 : K2 p2 = some (.lst (li (ts.take 59))) := by
        rw [g2]
        unfold li
        rw [List.map_take]
      have ha2 := z2 _ _ ha1
      refine ⟨_, rfl, _, rfl, _, _, rfl, sqI ha2, fun p3 K3 m3 z3 g3 => ?_⟩
      rw [show (30 : Int) = ((30 : Nat) : Int) from rfl, cut_to] at g3
      have g3 : K3 p3 = some (.lst (li (ts.take 30))) := by
        rw [g3]
        unfold li
        rw [List.map_take]
      refine ⟨(by show 1 ≤ sizeLine; decide), fun p4 K4 m4 z4 g4 => ?_⟩
      have l30 : (ts.take 30).length ≤ 30 := by rw [List.length_take]; exact Nat.min_le_left _ _
      have l59 : ((ts.take 59).drop 30).length ≤ 59 := by
        rw [List.length_drop, List.length_take]
        omega
      refine ⟨_, _, _, _, rfl, rfl, z4 _ _ g3, g4, ?_, fun p5 K5 m5 z5 g5 => ?_⟩
      · rw [List.length_map]
        exact Nat.le_trans (show _ + 1 ≤ 31 from Nat.add_le_add_right l30 1) (by decide)
      have ha5 := (z3.trans (z4.trans z5)) _ _ ha2
      refine ⟨_, rfl, _, rfl, _, rfl, _, _, rfl, sqI ha5, fun p6 K6 m6 z6 g6 => ?_⟩
      rw [show (30 : Int) = ((30 : Nat) : Int) from rfl, show (59 : Int) = ((59 : Nat) : Int) from rfl, cut_two] at g6
      have g6 : K6 p6 = some (.lst (li ((ts.take 59).drop 30))) := by
        rw [g6]
        simp only [li, List.map_drop, List.map_take]
      refine ⟨_, _, _, _, rfl, rfl, z6 _ _ g5, g6, ?_, fun p7 K7 m7 z7 g7 => ?_⟩
      · rw [List.length_append, List.length_map, List.length_map]
        exact Nat.le_trans (show _ + 1 + _ ≤ 90 from Nat.add_le_add (Nat.add_le_add_right l30 1) l59) (by decide)
      have g7 : K7 p7 = some (.lst (li (ts.take 30 ++ [0] ++ (ts.take 59).drop 30))) := by
        rw [g7]
        unfold li
        rw [List.map_append, List.map_append]
        rfl
      have z27 := z3.trans (z4.trans (z5.trans (z6.trans z7)))
      have ef : form (ts.take 59) = form (ts.take 30 ++ [0] ++ (ts.take 59).drop 30) := by
        rw [form_zero]
        congr 1
        have : ts.take 30 = (ts.take 59).take 30 := by
          rw [List.take_take]
          rfl
        rw [this, List.take_append_drop]
      refine ⟨p2, p7, ts.take 59, ts.take 30 ++ [0] ++ (ts.take 59).drop 30, rfl, sqI (z27 _ _ g2), sqI g7, by rw [List.length_take]; omega, by rw [List.length_append, List.length_append]; show (ts.take 30).length + 1 + _ ≤ 500; omega, fun o v K8 ra z8 ap => ?_⟩
      have : o = none := by
        rcases ra with ⟨rfl, _⟩ | ⟨s, x, rfl, hn, _⟩
        · rfl
        · exact absurd ef hn
      subst this
      cases (show v = .non from ap)
      refine ⟨rfl, _, rfl, iteF ?_⟩
      have z08 := z1.trans (z2.trans (z27.trans z8))
      -- scroll
      refine ⟨_, rfl, j, _, _, rfl, k0.ex z08, by decide, by decide, by decide, fun sc0 L1 sc00 sc01 y1 l1 => ?_⟩
      refine ⟨_, _, rfl, rfl, ?_⟩
      obtain ⟨sc, hsc⟩ : ∃ z, z = sc0 - 1 := ⟨_, rfl⟩
      have ha8' := y1 _ _ npa (z08 _ _ ha0)
      have hb8' := y1 _ _ npb' (z08 _ _ hb0)
      refine ⟨_, rfl, _, rfl, pa, ts, sc0 - 1, rfl, sqI ha8', by omega, fun L2 y2 => ?_⟩
      refine ⟨fun v' H' => L2 = H' ∧ v' = (if sc0 - 1 < 0 then V.int (sc0 - 1) else .non), ?_, ?_⟩
      · refine ⟨_, rfl, _, _, rfl, rfl, _, rfl, ?_⟩
        refine ifB (fun c => ?_) (fun c => ?_)
        · exact ⟨_, rfl, rfl, by rw [if_pos (of_decide_eq_true c)]⟩
        · exact ⟨rfl, by rw [if_neg (of_decide_eq_false c)]⟩
      rintro v' H' ⟨rfl, rfl⟩
      refine ⟨by split <;> rfl, _, rfl, ifF (nef rfl) ?_⟩
      have c40 : CPowW 10 40 := by constructor <;> decide +kernel
      refine ⟨_, rfl, _, _, rfl, rfl, c40, _, _, rfl, rfl, pa, ts, _, rfl, sqI (y2 _ _ ha8'), by omega, fun L3 y3 => ?_⟩
      refine ⟨_, _, rfl, rfl, c40, _, _, rfl, rfl, ?_⟩
      have neg : (0 : Int) - (10 : Int) ^ (40 : Int).toNat < 0 := by decide +kernel
      rw [if_pos neg]
      refine ⟨rfl, _, rfl, ifF (nef rfl) ?_⟩
      have y13 := y2.trans y3
      have ha3 := y13 _ _ ha8'
      have hb3 := y13 _ _ hb8'
      have mxb : ∃ M : Int, (if sc0 - 1 > 0 then sc0 - 1 else 0) = M ∧ 0 ≤ M ∧ M ≤ 100 := ⟨_, rfl, by split <;> omega, by split <;> omega⟩
      obtain ⟨M, eM, M0, M1⟩ := mxb
      refine ⟨_, rfl, _, rfl, _, _, rfl, _, rfl, pa, ts, M, wd, (by rw [eM]; rfl), sqI ha3, by omega, b7, M0, M1, wd0, wd1, fun L4 y4 => ?_⟩
      refine ⟨_, rfl, ifF rfl ?_⟩
      refine ⟨_, rfl, _, rfl, _, _, rfl, _, rfl, pb, us, M, wd, (by rw [eM]; rfl), sqI (y4 _ _ hb3), by omega, bb, M0, M1, wd0, wd1, fun L5 y5 => ?_⟩
      refine ⟨_, rfl, iteF ?_⟩
      have y15 := y13.trans (y4.trans y5)
      refine ⟨_, rfl, j, _, rfl, l1.ex y15, by decide, fun L6 x6 l6 => ?_⟩
      refine ⟨_, rfl, iteF ?_⟩
      exact ⟨_, _, _, _, _, _, _, _, rfl, exj_ex (e0.trans e1) njH (x18.trans (y0.trans ((Exj.of z08).trans (y1.trans ((Exj.of y15).trans x6)))))⟩
    · rintro σ H' ⟨v1, v2, v3, v4, v5, v6, v7, v8, rfl, e⟩
      exact k H'
end
end K38
namespace K38
open PySem L2 My
theorem all_mk {K : PySem.W.Frag} {h : Heap} {mg : Str → Option Value} (X : K.In h) (G : h.Ns mainGlobals mg)
    {f0 : Addr} {od0 an0 : Option Addr} {sl0 : Array (Option Value)} {oc0 kV0 dc0 pm0 cd0 ct0 : Value}
    (a0 : PySem.W.nsIn K mainGlobals "between" = some (some (.ref f0))) (l0 : K.lookup f0 = some ⟨oc0, od0, .func (PySem.W.fnOf "between" "between" (defArgs s_between) (defBody s_between) (defScope s_between) .none kV0 dc0 pm0 an0 cd0 ct0), sl0⟩) (c0 : PySem.W.codeIn K cd0 "between" = true) (k0 : PySem.W.keepIn K (.ref f0) = true)
    {f1 : Addr} {od1 an1 : Option Addr} {sl1 : Array (Option Value)} {oc1 kV1 dc1 pm1 cd1 ct1 : Value}
    (a1 : PySem.W.nsIn K mainGlobals "effect_from" = some (some (.ref f1))) (l1 : K.lookup f1 = some ⟨oc1, od1, .func (PySem.W.fnOf "effect_from" "effect_from" (defArgs s_effect_from) (defBody s_effect_from) (defScope s_effect_from) .none kV1 dc1 pm1 an1 cd1 ct1), sl1⟩) (c1 : PySem.W.codeIn K cd1 "effect_from" = true) (k1 : PySem.W.keepIn K (.ref f1) = true)
    {f2 : Addr} {od2 an2 : Option Addr} {sl2 : Array (Option Value)} {oc2 kV2 dc2 pm2 cd2 ct2 : Value}
    (a2 : PySem.W.nsIn K mainGlobals "effect_in" = some (some (.ref f2))) (l2 : K.lookup f2 = some ⟨oc2, od2, .func (PySem.W.fnOf "effect_in" "effect_in" (defArgs s_effect_in) (defBody s_effect_in) (defScope s_effect_in) .none kV2 dc2 pm2 an2 cd2 ct2), sl2⟩) (c2 : PySem.W.codeIn K cd2 "effect_in" = true) (k2 : PySem.W.keepIn K (.ref f2) = true)
    {f3 : Addr} {od3 an3 : Option Addr} {sl3 : Array (Option Value)} {oc3 kV3 dc3 pm3 cd3 ct3 : Value}
    (a3 : PySem.W.nsIn K mainGlobals "add_turn" = some (some (.ref f3))) (l3 : K.lookup f3 = some ⟨oc3, od3, .func (PySem.W.fnOf "add_turn" "add_turn" (defArgs s_add_turn) (defBody s_add_turn) (defScope s_add_turn) .none kV3 dc3 pm3 an3 cd3 ct3), sl3⟩) (c3 : PySem.W.codeIn K cd3 "add_turn" = true) (k3 : PySem.W.keepIn K (.ref f3) = true)
    {f4 : Addr} {od4 an4 : Option Addr} {sl4 : Array (Option Value)} {oc4 kV4 dc4 pm4 cd4 ct4 : Value}
    (a4 : PySem.W.nsIn K mainGlobals "form_in" = some (some (.ref f4))) (l4 : K.lookup f4 = some ⟨oc4, od4, .func (PySem.W.fnOf "form_in" "form_in" (defArgs s_form_in) (defBody s_form_in) (defScope s_form_in) .none kV4 dc4 pm4 an4 cd4 ct4), sl4⟩) (c4 : PySem.W.codeIn K cd4 "form_in" = true) (k4 : PySem.W.keepIn K (.ref f4) = true)
    {f5 : Addr} {od5 an5 : Option Addr} {sl5 : Array (Option Value)} {oc5 kV5 dc5 pm5 cd5 ct5 : Value}
    (a5 : PySem.W.nsIn K mainGlobals "turns_alike" = some (some (.ref f5))) (l5 : K.lookup f5 = some ⟨oc5, od5, .func (PySem.W.fnOf "turns_alike" "turns_alike" (defArgs s_turns_alike) (defBody s_turns_alike) (defScope s_turns_alike) .none kV5 dc5 pm5 an5 cd5 ct5), sl5⟩) (c5 : PySem.W.codeIn K cd5 "turns_alike" = true) (k5 : PySem.W.keepIn K (.ref f5) = true)
    {f6 : Addr} {od6 an6 : Option Addr} {sl6 : Array (Option Value)} {oc6 kV6 dc6 pm6 cd6 ct6 : Value}
    (a6 : PySem.W.nsIn K mainGlobals "cells_of" = some (some (.ref f6))) (l6 : K.lookup f6 = some ⟨oc6, od6, .func (PySem.W.fnOf "cells_of" "cells_of" (defArgs s_cells_of) (defBody s_cells_of) (defScope s_cells_of) .none kV6 dc6 pm6 an6 cd6 ct6), sl6⟩) (c6 : PySem.W.codeIn K cd6 "cells_of" = true) (k6 : PySem.W.keepIn K (.ref f6) = true)
    {f7 : Addr} {od7 an7 : Option Addr} {sl7 : Array (Option Value)} {oc7 kV7 dc7 pm7 cd7 ct7 : Value}
    (a7 : PySem.W.nsIn K mainGlobals "last_cell" = some (some (.ref f7))) (l7 : K.lookup f7 = some ⟨oc7, od7, .func (PySem.W.fnOf "last_cell" "last_cell" (defArgs s_last_cell) (defBody s_last_cell) (defScope s_last_cell) .none kV7 dc7 pm7 an7 cd7 ct7), sl7⟩) (c7 : PySem.W.codeIn K cd7 "last_cell" = true) (k7 : PySem.W.keepIn K (.ref f7) = true)
    {f8 : Addr} {od8 an8 : Option Addr} {sl8 : Array (Option Value)} {oc8 kV8 dc8 pm8 cd8 ct8 : Value}
    (a8 : PySem.W.nsIn K mainGlobals "is_down_at" = some (some (.ref f8))) (l8 : K.lookup f8 = some ⟨oc8, od8, .func (PySem.W.fnOf "is_down_at" "is_down_at" (defArgs s_is_down_at) (defBody s_is_down_at) (defScope s_is_down_at) .none kV8 dc8 pm8 an8 cd8 ct8), sl8⟩) (c8 : PySem.W.codeIn K cd8 "is_down_at" = true) (k8 : PySem.W.keepIn K (.ref f8) = true)
    {f9 : Addr} {od9 an9 : Option Addr} {sl9 : Array (Option Value)} {oc9 kV9 dc9 pm9 cd9 ct9 : Value}
    (a9 : PySem.W.nsIn K mainGlobals "size_apart" = some (some (.ref f9))) (l9 : K.lookup f9 = some ⟨oc9, od9, .func (PySem.W.fnOf "size_apart" "size_apart" (defArgs s_size_apart) (defBody s_size_apart) (defScope s_size_apart) .none kV9 dc9 pm9 an9 cd9 ct9), sl9⟩) (c9 : PySem.W.codeIn K cd9 "size_apart" = true) (k9 : PySem.W.keepIn K (.ref f9) = true)
    {f10 : Addr} {od10 an10 : Option Addr} {sl10 : Array (Option Value)} {oc10 kV10 dc10 pm10 cd10 ct10 : Value}
    (a10 : PySem.W.nsIn K mainGlobals "rise_of" = some (some (.ref f10))) (l10 : K.lookup f10 = some ⟨oc10, od10, .func (PySem.W.fnOf "rise_of" "rise_of" (defArgs s_rise_of) (defBody s_rise_of) (defScope s_rise_of) .none kV10 dc10 pm10 an10 cd10 ct10), sl10⟩) (c10 : PySem.W.codeIn K cd10 "rise_of" = true) (k10 : PySem.W.keepIn K (.ref f10) = true)
    {f11 : Addr} {od11 an11 : Option Addr} {sl11 : Array (Option Value)} {oc11 kV11 dc11 pm11 cd11 ct11 : Value}
    (a11 : PySem.W.nsIn K mainGlobals "scroll_apart" = some (some (.ref f11))) (l11 : K.lookup f11 = some ⟨oc11, od11, .func (PySem.W.fnOf "scroll_apart" "scroll_apart" (defArgs s_scroll_apart) (defBody s_scroll_apart) (defScope s_scroll_apart) .none kV11 dc11 pm11 an11 cd11 ct11), sl11⟩) (c11 : PySem.W.codeIn K cd11 "scroll_apart" = true) (k11 : PySem.W.keepIn K (.ref f11) = true)
    {f12 : Addr} {od12 an12 : Option Addr} {sl12 : Array (Option Value)} {oc12 kV12 dc12 pm12 cd12 ct12 : Value}
    (a12 : PySem.W.nsIn K mainGlobals "room_apart" = some (some (.ref f12))) (l12 : K.lookup f12 = some ⟨oc12, od12, .func (PySem.W.fnOf "room_apart" "room_apart" (defArgs s_room_apart) (defBody s_room_apart) (defScope s_room_apart) .none kV12 dc12 pm12 an12 cd12 ct12), sl12⟩) (c12 : PySem.W.codeIn K cd12 "room_apart" = true) (k12 : PySem.W.keepIn K (.ref f12) = true)
    {f13 : Addr} {od13 an13 : Option Addr} {sl13 : Array (Option Value)} {oc13 kV13 dc13 pm13 cd13 ct13 : Value}
    (a13 : PySem.W.nsIn K mainGlobals "swing" = some (some (.ref f13))) (l13 : K.lookup f13 = some ⟨oc13, od13, .func (PySem.W.fnOf "swing" "swing" (defArgs s_swing) (defBody s_swing) (defScope s_swing) .none kV13 dc13 pm13 an13 cd13 ct13), sl13⟩) (c13 : PySem.W.codeIn K cd13 "swing" = true) (k13 : PySem.W.keepIn K (.ref f13) = true)
    {f14 : Addr} {od14 an14 : Option Addr} {sl14 : Array (Option Value)} {oc14 kV14 dc14 pm14 cd14 ct14 : Value}
    (a14 : PySem.W.nsIn K mainGlobals "place_in" = some (some (.ref f14))) (l14 : K.lookup f14 = some ⟨oc14, od14, .func (PySem.W.fnOf "place_in" "place_in" (defArgs s_place_in) (defBody s_place_in) (defScope s_place_in) .none kV14 dc14 pm14 an14 cd14 ct14), sl14⟩) (c14 : PySem.W.codeIn K cd14 "place_in" = true) (k14 : PySem.W.keepIn K (.ref f14) = true)
    {f15 : Addr} {od15 an15 : Option Addr} {sl15 : Array (Option Value)} {oc15 kV15 dc15 pm15 cd15 ct15 : Value}
    (a15 : PySem.W.nsIn K mainGlobals "least_size" = some (some (.ref f15))) (l15 : K.lookup f15 = some ⟨oc15, od15, .func (PySem.W.fnOf "least_size" "least_size" (defArgs s_least_size) (defBody s_least_size) (defScope s_least_size) .none kV15 dc15 pm15 an15 cd15 ct15), sl15⟩) (c15 : PySem.W.codeIn K cd15 "least_size" = true) (k15 : PySem.W.keepIn K (.ref f15) = true)
    {f16 : Addr} {od16 an16 : Option Addr} {sl16 : Array (Option Value)} {oc16 kV16 dc16 pm16 cd16 ct16 : Value}
    (a16 : PySem.W.nsIn K mainGlobals "rooms_for" = some (some (.ref f16))) (l16 : K.lookup f16 = some ⟨oc16, od16, .func (PySem.W.fnOf "rooms_for" "rooms_for" (defArgs s_rooms_for) (defBody s_rooms_for) (defScope s_rooms_for) .none kV16 dc16 pm16 an16 cd16 ct16), sl16⟩) (c16 : PySem.W.codeIn K cd16 "rooms_for" = true) (k16 : PySem.W.keepIn K (.ref f16) = true)
    {f17 : Addr} {od17 an17 : Option Addr} {sl17 : Array (Option Value)} {oc17 kV17 dc17 pm17 cd17 ct17 : Value}
    (a17 : PySem.W.nsIn K mainGlobals "_law_jug" = some (some (.ref f17))) (l17 : K.lookup f17 = some ⟨oc17, od17, .func (PySem.W.fnOf "_law_jug" "_law_jug" (defArgs s__law_jug) (defBody s__law_jug) (defScope s__law_jug) .none kV17 dc17 pm17 an17 cd17 ct17), sl17⟩) (c17 : PySem.W.codeIn K cd17 "_law_jug" = true) (k17 : PySem.W.keepIn K (.ref f17) = true)
    {f18 : Addr} {od18 an18 : Option Addr} {sl18 : Array (Option Value)} {oc18 kV18 dc18 pm18 cd18 ct18 : Value}
    (a18 : PySem.W.nsIn K mainGlobals "_law_pour" = some (some (.ref f18))) (l18 : K.lookup f18 = some ⟨oc18, od18, .func (PySem.W.fnOf "_law_pour" "_law_pour" (defArgs s__law_pour) (defBody s__law_pour) (defScope s__law_pour) .none kV18 dc18 pm18 an18 cd18 ct18), sl18⟩) (c18 : PySem.W.codeIn K cd18 "_law_pour" = true) (k18 : PySem.W.keepIn K (.ref f18) = true)
    {f19 : Addr} {od19 an19 : Option Addr} {sl19 : Array (Option Value)} {oc19 kV19 dc19 pm19 cd19 ct19 : Value}
    (a19 : PySem.W.nsIn K mainGlobals "_law_turns" = some (some (.ref f19))) (l19 : K.lookup f19 = some ⟨oc19, od19, .func (PySem.W.fnOf "_law_turns" "_law_turns" (defArgs s__law_turns) (defBody s__law_turns) (defScope s__law_turns) .none kV19 dc19 pm19 an19 cd19 ct19), sl19⟩) (c19 : PySem.W.codeIn K cd19 "_law_turns" = true) (k19 : PySem.W.keepIn K (.ref f19) = true)
    {f20 : Addr} {od20 an20 : Option Addr} {sl20 : Array (Option Value)} {oc20 kV20 dc20 pm20 cd20 ct20 : Value}
    (a20 : PySem.W.nsIn K mainGlobals "_law_led" = some (some (.ref f20))) (l20 : K.lookup f20 = some ⟨oc20, od20, .func (PySem.W.fnOf "_law_led" "_law_led" (defArgs s__law_led) (defBody s__law_led) (defScope s__law_led) .none kV20 dc20 pm20 an20 cd20 ct20), sl20⟩) (c20 : PySem.W.codeIn K cd20 "_law_led" = true) (k20 : PySem.W.keepIn K (.ref f20) = true)
    {f21 : Addr} {od21 an21 : Option Addr} {sl21 : Array (Option Value)} {oc21 kV21 dc21 pm21 cd21 ct21 : Value}
    (a21 : PySem.W.nsIn K mainGlobals "_law_apart" = some (some (.ref f21))) (l21 : K.lookup f21 = some ⟨oc21, od21, .func (PySem.W.fnOf "_law_apart" "_law_apart" (defArgs s__law_apart) (defBody s__law_apart) (defScope s__law_apart) .none kV21 dc21 pm21 an21 cd21 ct21), sl21⟩) (c21 : PySem.W.codeIn K cd21 "_law_apart" = true) (k21 : PySem.W.keepIn K (.ref f21) = true)
    {f22 : Addr} {od22 an22 : Option Addr} {sl22 : Array (Option Value)} {oc22 kV22 dc22 pm22 cd22 ct22 : Value}
    (a22 : PySem.W.nsIn K mainGlobals "_law_swing" = some (some (.ref f22))) (l22 : K.lookup f22 = some ⟨oc22, od22, .func (PySem.W.fnOf "_law_swing" "_law_swing" (defArgs s__law_swing) (defBody s__law_swing) (defScope s__law_swing) .none kV22 dc22 pm22 an22 cd22 ct22), sl22⟩) (c22 : PySem.W.codeIn K cd22 "_law_swing" = true) (k22 : PySem.W.keepIn K (.ref f22) = true)
    {f23 : Addr} {od23 an23 : Option Addr} {sl23 : Array (Option Value)} {oc23 kV23 dc23 pm23 cd23 ct23 : Value}
    (a23 : PySem.W.nsIn K mainGlobals "_law_apart_right" = some (some (.ref f23))) (l23 : K.lookup f23 = some ⟨oc23, od23, .func (PySem.W.fnOf "_law_apart_right" "_law_apart_right" (defArgs s__law_apart_right) (defBody s__law_apart_right) (defScope s__law_apart_right) .none kV23 dc23 pm23 an23 cd23 ct23), sl23⟩) (c23 : PySem.W.codeIn K cd23 "_law_apart_right" = true) (k23 : PySem.W.keepIn K (.ref f23) = true)
    {f24 : Addr} {od24 an24 : Option Addr} {sl24 : Array (Option Value)} {oc24 kV24 dc24 pm24 cd24 ct24 : Value}
    (a24 : PySem.W.nsIn K mainGlobals "_law_great_right" = some (some (.ref f24))) (l24 : K.lookup f24 = some ⟨oc24, od24, .func (PySem.W.fnOf "_law_great_right" "_law_great_right" (defArgs s__law_great_right) (defBody s__law_great_right) (defScope s__law_great_right) .none kV24 dc24 pm24 an24 cd24 ct24), sl24⟩) (c24 : PySem.W.codeIn K cd24 "_law_great_right" = true) (k24 : PySem.W.keepIn K (.ref f24) = true)
    {f25 : Addr} {od25 an25 : Option Addr} {sl25 : Array (Option Value)} {oc25 kV25 dc25 pm25 cd25 ct25 : Value}
    (a25 : PySem.W.nsIn K mainGlobals "_law_rooms_right" = some (some (.ref f25))) (l25 : K.lookup f25 = some ⟨oc25, od25, .func (PySem.W.fnOf "_law_rooms_right" "_law_rooms_right" (defArgs s__law_rooms_right) (defBody s__law_rooms_right) (defScope s__law_rooms_right) .none kV25 dc25 pm25 an25 cd25 ct25), sl25⟩) (c25 : PySem.W.codeIn K cd25 "_law_rooms_right" = true) (k25 : PySem.W.keepIn K (.ref f25) = true)
    {f26 : Addr} {od26 an26 : Option Addr} {sl26 : Array (Option Value)} {oc26 kV26 dc26 pm26 cd26 ct26 : Value}
    (a26 : PySem.W.nsIn K mainGlobals "_law_refused" = some (some (.ref f26))) (l26 : K.lookup f26 = some ⟨oc26, od26, .func (PySem.W.fnOf "_law_refused" "_law_refused" (defArgs s__law_refused) (defBody s__law_refused) (defScope s__law_refused) .none kV26 dc26 pm26 an26 cd26 ct26), sl26⟩) (c26 : PySem.W.codeIn K cd26 "_law_refused" = true) (k26 : PySem.W.keepIn K (.ref f26) = true)
    {f27 : Addr} {od27 an27 : Option Addr} {sl27 : Array (Option Value)} {oc27 kV27 dc27 pm27 cd27 ct27 : Value}
    (a27 : PySem.W.nsIn K mainGlobals "law" = some (some (.ref f27))) (l27 : K.lookup f27 = some ⟨oc27, od27, .func (PySem.W.fnOf "law" "law" (defArgs s_law) (defBody s_law) (defScope s_law) .none kV27 dc27 pm27 an27 cd27 ct27), sl27⟩) (c27 : PySem.W.codeIn K cd27 "law" = true) (k27 : PySem.W.keepIn K (.ref f27) = true)
    {cD : Addr} {fI cI cdI : Addr} {ocI clI cclI : Value} {odI cldI cddI anI : Option Addr} {kVI docI pmI ctI : Value} {oslI cslI ccsI : Array (Option Value)} {vsI : Array Value} {flI : Str} {tfI : Tok} {cdD : ClassData}
    (aW : PySem.W.nsIn K mainGlobals "WindowError" = some (some (.ref cD))) (iI : PySem.W.findIn K (.ref cD) "__init__" = some (some (.ref fI)))
    (lI : K.lookup fI = some ⟨ocI, odI, .func (PySem.W.fnX "__init__" "WindowError.__init__" (defArgs s_init) (defBody s_init) (defScope s_init) [("__class__", cI)] .none kVI docI pmI anI (.ref cdI) ctI), oslI⟩) (qI : PySem.W.codeIn K (.ref cdI) "WindowError.__init__" = true)
    (ceI : K.lookup cI = some ⟨clI, cldI, .cell (some (.ref cD)), cslI⟩) (fiI : K.lookup cdI = some ⟨cclI, cddI, .fields vsI, ccsI⟩) (viI : vsI[2]? = some (.str flI tfI)) (wiI : ((PR.main.file : Str) == flI) = true) (clD : PySem.W.clsIn K cD = some cdD) (suI : PySem.W.nsIn K mainGlobals "super" = some none)
    (opI : PySem.W.nsIn K cStatics "thirdparty.any" = some none) (tyI : PySem.W.typeIn K (.ref fI) = some (.type "function"))
    {e0 : Addr} {nme0 qe0 : Str} {Ne0 : Addr} {bse0 : List Value} {sne0 : List Str} {sube0 : List Value} {abe0 : Bool} {cole0 : Option Bool} {dde0 : Option Addr} {m0e0 m1e0 m2e0 m3e0 m5e0 : Option Value}
    (aCe0 : PySem.W.nsIn K mainGlobals "WindowError" = some (some (.ref e0))) (xLe0 : K.lookup e0 = some (excClassObj nme0 qe0 e0 Ne0 bse0 PySem.HandSPX.veTail true sne0 sube0 abe0 cole0 dde0 m0e0 m1e0 m2e0 m3e0 m5e0 "ValueError.__new__")) (rve0 : e0 = cD)
    (sae0 : PySem.W.findIn K (.ref e0) "__setattr__" = some (some (.builtin "object.__setattr__"))) (gae0 : PySem.W.findIn K (.ref e0) "__getattribute__" = some (some (.builtin "BaseException.__getattribute__"))) (gge0 : PySem.W.findIn K (.ref e0) "__getattr__" = some none) (nve0 : PySem.W.findIn K (.ref e0) "value" = some none) (ine0 : PySem.W.findIn K (.ref e0) "__init__" = some (some (.ref fI)))
    (kCe0 : PySem.W.keepIn K (.ref e0) = true) (eCe0 : PySem.W.subIn K (.ref e0) (.type "BaseException") = some true) (tCe0 : PySem.W.typeIn K (.ref e0) = some (.type "type")) (hCe0 : PySem.W.hasDictIn K e0 = true) (mre0 : PySem.W.mroIn K e0 (.ref cD) = some true) (ice0 : PySem.W.isClsIn K e0 = true) (sve0 : PySem.W.subIn K (.ref e0) (.type "ValueError") = some true)
    {e1 : Addr} {nme1 qe1 : Str} {Ne1 : Addr} {bse1 : List Value} {sne1 : List Str} {sube1 : List Value} {abe1 : Bool} {cole1 : Option Bool} {dde1 : Option Addr} {m0e1 m1e1 m2e1 m3e1 m5e1 : Option Value}
    (aCe1 : PySem.W.nsIn K mainGlobals "InvalidNumber" = some (some (.ref e1))) (xLe1 : K.lookup e1 = some (excClassObj nme1 qe1 e1 Ne1 bse1 (.ref cD :: PySem.HandSPX.veTail) true sne1 sube1 abe1 cole1 dde1 m0e1 m1e1 m2e1 m3e1 m5e1 "ValueError.__new__")) (rve1 : (e1 == cD) = false)
    (sae1 : PySem.W.findIn K (.ref e1) "__setattr__" = some (some (.builtin "object.__setattr__"))) (gae1 : PySem.W.findIn K (.ref e1) "__getattribute__" = some (some (.builtin "BaseException.__getattribute__"))) (gge1 : PySem.W.findIn K (.ref e1) "__getattr__" = some none) (nve1 : PySem.W.findIn K (.ref e1) "value" = some none) (ine1 : PySem.W.findIn K (.ref e1) "__init__" = some (some (.ref fI)))
    (kCe1 : PySem.W.keepIn K (.ref e1) = true) (eCe1 : PySem.W.subIn K (.ref e1) (.type "BaseException") = some true) (tCe1 : PySem.W.typeIn K (.ref e1) = some (.type "type")) (hCe1 : PySem.W.hasDictIn K e1 = true) (mre1 : PySem.W.mroIn K e1 (.ref cD) = some true) (ice1 : PySem.W.isClsIn K e1 = true) (sve1 : PySem.W.subIn K (.ref e1) (.type "ValueError") = some true)
    (xm_InvalidNumber_InvalidNumber : PySem.W.subIn K (.ref e1) (.ref e1) = some true)
    (z_max : PySem.W.nsIn K mainGlobals "max" = some none)
    (z_min : PySem.W.nsIn K mainGlobals "min" = some none)
    (z_sum : PySem.W.nsIn K mainGlobals "sum" = some none)
    (z_len : PySem.W.nsIn K mainGlobals "len" = some none)
    (z_abs : PySem.W.nsIn K mainGlobals "abs" = some none)
    (z_sorted : PySem.W.nsIn K mainGlobals "sorted" = some none)
    (z_int : PySem.W.nsIn K mainGlobals "int" = some none)
    (z_range : PySem.W.nsIn K mainGlobals "range" = some none)
    : ∃ T : Txt K mg, T.d_law = PySem.W.fnOf "law" "law" (defArgs s_law) (defBody s_law) (defScope s_law) .none kV27 dc27 pm27 an27 cd27 ct27 ∧ T.a_law = f27 :=
  ⟨⟨f0, _, fun_mk (st := s_between) l0 c0 k0, PySem.W.mg_of X G a0, f1, _, fun_mk (st := s_effect_from) l1 c1 k1, PySem.W.mg_of X G a1, f2, _, fun_mk (st := s_effect_in) l2 c2 k2, PySem.W.mg_of X G a2, f3, _, fun_mk (st := s_add_turn) l3 c3 k3, PySem.W.mg_of X G a3, f4, _, fun_mk (st := s_form_in) l4 c4 k4, PySem.W.mg_of X G a4, f5, _, fun_mk (st := s_turns_alike) l5 c5 k5, PySem.W.mg_of X G a5, f6, _, fun_mk (st := s_cells_of) l6 c6 k6, PySem.W.mg_of X G a6, f7, _, fun_mk (st := s_last_cell) l7 c7 k7, PySem.W.mg_of X G a7, f8, _, fun_mk (st := s_is_down_at) l8 c8 k8, PySem.W.mg_of X G a8, f9, _, fun_mk (st := s_size_apart) l9 c9 k9, PySem.W.mg_of X G a9, f10, _, fun_mk (st := s_rise_of) l10 c10 k10, PySem.W.mg_of X G a10, f11, _, fun_mk (st := s_scroll_apart) l11 c11 k11, PySem.W.mg_of X G a11, f12, _, fun_mk (st := s_room_apart) l12 c12 k12, PySem.W.mg_of X G a12, f13, _, fun_mk (st := s_swing) l13 c13 k13, PySem.W.mg_of X G a13, f14, _, fun_mk (st := s_place_in) l14 c14 k14, PySem.W.mg_of X G a14, f15, _, fun_mk (st := s_least_size) l15 c15 k15, PySem.W.mg_of X G a15, f16, _, fun_mk (st := s_rooms_for) l16 c16 k16, PySem.W.mg_of X G a16, f17, _, fun_mk (st := s__law_jug) l17 c17 k17, PySem.W.mg_of X G a17, f18, _, fun_mk (st := s__law_pour) l18 c18 k18, PySem.W.mg_of X G a18, f19, _, fun_mk (st := s__law_turns) l19 c19 k19, PySem.W.mg_of X G a19, f20, _, fun_mk (st := s__law_led) l20 c20 k20, PySem.W.mg_of X G a20, f21, _, fun_mk (st := s__law_apart) l21 c21 k21, PySem.W.mg_of X G a21, f22, _, fun_mk (st := s__law_swing) l22 c22 k22, PySem.W.mg_of X G a22, f23, _, fun_mk (st := s__law_apart_right) l23 c23 k23, PySem.W.mg_of X G a23, f24, _, fun_mk (st := s__law_great_right) l24 c24 k24, PySem.W.mg_of X G a24, f25, _, fun_mk (st := s__law_rooms_right) l25 c25 k25, PySem.W.mg_of X G a25, f26, _, fun_mk (st := s__law_refused) l26 c26 k26, PySem.W.mg_of X G a26, f27, _, fun_mk (st := s_law) l27 c27 k27, PySem.W.mg_of X G a27, fI, cI, cdI, cD, _, ⟨⟨_, _, _, _, _, _, _, _, rfl, lI⟩, qI, ⟨_, _, _, ceI⟩, ⟨_, _, _, _, _, _, fiI, viI, wiI⟩, ⟨_, clD⟩, PySem.W.mg_none_of X G suI, by rfl, opI⟩, e0, ⟨⟨⟨_, _, _, _, _, _, _, _, _, _, _, _, _, _, _, xLe0, rfl⟩, sae0, eCe0, tCe0, kCe0⟩, ine0, tyI, nve0, mre0, sup_self xLe0 rve0, sve0, ⟨gae0, gge0, eCe0, hCe0⟩⟩, PySem.W.mg_of X G aCe0, e1, ⟨⟨⟨_, _, _, _, _, _, _, _, _, _, _, _, _, _, _, xLe1, rfl⟩, sae1, eCe1, tCe1, kCe1⟩, ine1, tyI, nve1, mre1, sup_child xLe1 rve1, sve1, ⟨gae1, gge1, eCe1, hCe1⟩⟩, PySem.W.mg_of X G aCe1, exm_gen eCe1 ice1 tCe1 xm_InvalidNumber_InvalidNumber, PySem.W.mg_none_of X G z_max, PySem.W.mg_none_of X G z_min, PySem.W.mg_none_of X G z_sum, PySem.W.mg_none_of X G z_len, PySem.W.mg_none_of X G z_abs, PySem.W.mg_none_of X G z_sorted, PySem.W.mg_none_of X G z_int, PySem.W.mg_none_of X G z_range⟩, rfl, rfl⟩
theorem walk {l : PySem.W.OpenLaw} {q : Program} {loose : List Str} {XP : (Str → Option Value) → Heap → Prop} {YP : World → Heap → Prop} {d : DefRec} {K : Params → PySem.W.Frag} (hn : l.most = some 63) (hdf : d.params.defaults = [])
    (hY : ∀ (w : World) (h : Heap), YP w h → (K w.params).In h)
    (F : ∀ (w : World) (mg : Str → Option Value) (fa : Addr) (h : Heap), (K w.params).In h → h.Ns mainGlobals mg → mg d.name = some (.ref fa) →
      ∃ fd : FuncData, (∀ (s : Shared) (u : Value), BindsTo s fd ⟨[u], []⟩ [("_law_script", u)]) ∧ ∀ base : Heap, (K w.params).In base → base.Ns mainGlobals mg → FnOk l.prog w (K w.params) mg base CX0 6 fa fd ["_law_script"] (sp_law (K w.params))) :
    PySem.W.WalkO q loose XP YP l.row.toRowW d [] (fun f vs => PySem.call f vs) :=
  L2.walk_of (n := 63) (k := 6) (x := "_law_script") (CX := fun _ => CX0) (sp := fun w => sp_law (K w.params)) hn (by decide) hdf ⟨rfl, by decide, by decide⟩ hY F (fun _ _ a ns hl _ hS => ⟨a, ns, rfl, hS, hl, fun _ => rfl⟩) fun _ _ _ _ _ z => z
end K38
open PySem PySem.W PyProof.Rows
set_option maxRecDepth 100000 in
set_option maxHeartbeats 0 in
theorem PySem.Challenge.cw_listwindow_k38_rooms_that_part_turns_holds : PySem.Challenge.rw_listwindow_k38_rooms_that_part_turns.Holds := by
  w_on; o_law; k_head; (case hw => w_witness2)
  k_fill
  refine K38.walk (l := PySem.Challenge.rw_listwindow_k38_rooms_that_part_turns) rfl rfl (fun w h Y => PySem.W.kIn_of Y) ?F
  case F =>
    intro w mg fa h KX G hmg
    have T : ∃ T : K38.Txt _ mg, _ ∧ _ := K38.all_mk KX G (by k_is) (by k_is) (by k_is) (by k_is) (by k_is) (by k_is) (by k_is) (by k_is) (by k_is) (by k_is) (by k_is) (by k_is) (by k_is) (by k_is) (by k_is) (by k_is) (by k_is) (by k_is) (by k_is) (by k_is) (by k_is) (by k_is) (by k_is) (by k_is) (by k_is) (by k_is) (by k_is) (by k_is) (by k_is) (by k_is) (by k_is) (by k_is) (by k_is) (by k_is) (by k_is) (by k_is) (by k_is) (by k_is) (by k_is) (by k_is) (by k_is) (by k_is) (by k_is) (by k_is) (by k_is) (by k_is) (by k_is) (by k_is) (by k_is) (by k_is) (by k_is) (by k_is) (by k_is) (by k_is) (by k_is) (by k_is) (by k_is) (by k_is) (by k_is) (by k_is) (by k_is) (by k_is) (by k_is) (by k_is) (by k_is) (by k_is) (by k_is) (by k_is) (by k_is) (by k_is) (by k_is) (by k_is) (by k_is) (by k_is) (by k_is) (by k_is) (by k_is) (by k_is) (by k_is) (by k_is) (by k_is) (by k_is) (by k_is) (by k_is) (by k_is) (by k_is) (by k_is) (by k_is) (by k_is) (by k_is) (by k_is) (by k_is) (by k_is) (by k_is) (by k_is) (by k_is) (by k_is) (by k_is) (by k_is) (by k_is) (by k_is) (by k_is) (by k_is) (by k_is) (by k_is) (by k_is) (by k_is) (by k_is) (by k_is) (by k_is) (by k_is) (by k_is) (by k_is) (by k_is) (by k_is) (by k_is) (by k_is) (by k_is) (by rfl) (by decide +kernel) (by k_is) (by k_is) (by k_is) (by k_is) (by k_is) (by k_is) (by rfl) (by k_is) (by k_is) (by k_is) (by k_is) (by k_is) (by k_is) (by k_is) (by k_is) (by k_is) (by k_is) (by k_is) (by k_is) (by k_is) (by k_is) (by rfl) (by k_is) (by k_is) (by k_is) (by k_is) (by k_is) (by k_is) (by k_is) (by k_is) (by k_is) (by k_is) (by k_is) (by k_is) (by first | rfl | k_is) (by k_is) (by k_is) (by k_is) (by k_is) (by k_is) (by k_is) (by k_is) (by k_is)
    obtain ⟨T, e1, e2⟩ := T
    have e3 := hmg.symm.trans T.g_law
    cases e3
    exact ⟨T.d_law, fun s v => by rw [e1]; exact .of_eq rfl, fun base _ _ => K38.ok_law T⟩
#print axioms PySem.Challenge.cw_listwindow_k38_rooms_that_part_turns_holds

