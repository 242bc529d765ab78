import PyProof.Rows.All
import Wide.All
import OpenK.AllK
import Wide.FinOn
import HandS.ForMost
import HandS.Wide
import HandS.Style
import HandS.SortInts
import HandS.IsInst
import HandS.Evl
import HandS.Walk
import HandS.ForExc
import HandS.ExcInit
import HandS.ExcField
import HandS.ExcSuper
import HandS.Nested
import KE.KExcSuper
import HandS.Zip
import HandS.Sort
import PyProof.ReprRoads
import HandS.DictTup
import HandS.Set
import HandS.Dict
import HandS.DictComp
import HandS.NoneIn
import HandS.Conv
import PySem.Challenge.RW_listwindow_k26_clicks_row_by_row
set_option Elab.async false
set_option linter.all false
set_option maxRecDepth 100000
set_option maxHeartbeats 4000000
/-! My own rules over the hand layer: calls by keywords alone, powers of great ints, what a heap keeps. -/
namespace My
open PySem PySem.Spec PyProof.Rows L2
/-! ### calls by keywords -/
def kg (n m : Nat) (π : List Nat) {α : Type} (us ws : List α) : List α := if us.length = n ∧ ws.length = m then π.filterMap (fun i => (us ++ ws)[i]?) else []
theorem vals_pick {xs : List V} {us : List Value} (r : Vals xs us) : ∀ (π : List Nat), Vals (π.filterMap (fun i => xs[i]?)) (π.filterMap (fun i => us[i]?))
  | [] => .nil
  | i :: π => by
    have ih := vals_pick r π
    cases e : xs[i]? with
    | none =>
      rw [List.filterMap_cons, e, List.filterMap_cons, r.none_of e]
      exact ih
    | some x =>
      obtain ⟨u, h1, h2⟩ := r.get e
      rw [List.filterMap_cons, e, List.filterMap_cons, h1]
      exact .cons h2 ih
theorem kg_rel {n m : Nat} {π : List Nat} {vs zs : List V} {us ws : List Value} (r : Vals vs us) (rz : Vals zs ws) : Vals (kg n m π vs zs) (kg n m π us ws) := by
  unfold kg
  rw [r.length, rz.length]
  split
  · exact vals_pick (r.append rz) π
  · exact .nil
theorem kbinds {K : PySem.W.Frag} {x qual : Str} {st : Stmt} {f : Addr} {fd : FuncData} {ps ks : List Str} (n m : Nat) (π : List Nat) (F : Fun K x qual st f fd) (hp : 0 < ps.length)
    (h : ∀ (kV doc pm : Value) (an : Option Addr) (cdv ct : Value) (us ws : List Value), us.length = n → ws.length = m → bindArgs (PySem.W.fnOf x qual (defArgs st) (defBody st) (defScope st) .none kV doc pm an cdv ct) ⟨us, ks.zip ws⟩ = pure (ps.zip (kg n m π us ws))) : KBinds K fd ps ks (kg n m π) (kg n m π) := by
  obtain ⟨oc, od, kV, doc, pm, an, cdv, ct, osl, rfl, lk, hcd⟩ := F.ex
  refine ⟨fun s us ws _ hl => ?_, fun r rz => kg_rel r rz⟩
  by_cases z : us.length = n ∧ ws.length = m
  · exact .of_eq (h kV doc pm an cdv ct us ws z.1 z.2)
  · unfold kg at hl
    rw [if_neg z] at hl
    rw [← hl] at hp
    exact absurd hp (Nat.lt_irrefl _)
section
variable {X : Cx} {CX : CXT} {k : Nat} {f C : Addr} {fd : FuncData} {ps ks : List Str} {sp : Sp} {E : XK} {x m : Str} {p pos apos kpos : Pos} {kws : List Keyword} {tk : TA} {g : List Value → List Value → List Value} {gV : List V → List V → List V}
/-- f(k = v, ..) -/
theorem pe_callK0 (F : FnOk X.prog X.w X.K X.mg X.base CX k f fd ps sp) (hr : Room k X.A) (hg : Gl X x) (hm : X.mg x = some (.ref f)) (hk : PySem.W.keepIn X.K (.ref f) = true) (hb : KBinds X.K fd ps ks g gV) (hx : Passes CX X E)
    (hkw : PK X kws tk) (hall : (backToKw pos (keywordEach kws X.env)).all (·.1.isSome) = true := by rfl) (hks : (backToKw pos (keywordEach kws X.env)).filterMap (·.1) = ks := by rfl)
    (hdb : (x == ("__debug__" : Str)) = false := by decide)
    (hpl : ((backTo pos (starEach [] X.env)).any (·.1) || (backToKw pos (keywordEach kws X.env)).any (·.1.isNone)) = false := by rfl) :
    PE X (.Call (.Name x p) [] kws pos) (tCallK sp gV E tNil tk) := by
  refine ⟨fun pins s σ H Q I h => ?_⟩
  refine wpAny_Call_Name_kw (ld_glob I hg hm ?_ hdb)
  refine PySem.W.callWith_KW0 (h₀ := X.base) I.ok.mod.kin hk hall ?_ hpl
  refine thn (hkw.run pos pins s σ H _ I h) fun ws s2 ⟨zs, H2, I2, rz, q2⟩ => ⟨I2.kIn, ?_⟩
  rw [hks]
  exact run_fnk (us := []) (vs := []) F hr hb hx I2 .nil rz q2
end
/-! ### powers of great ints -/
/-- a power of together at most 2 ^ 27 bits -/
def CPowW (i j : Int) : Prop := 0 ≤ j ∧ ((i.natAbs.log2 : Int) + 1) * j ≤ 2 ^ 27
theorem bits_le (x : Int) : (Builtin.Int.intBits x : Int) ≤ (x.natAbs.log2 : Int) + 1 := by
  unfold Builtin.Int.intBits
  split <;> omega
theorem op_powW {X : Cx} : OpR X (binaryOp .Pow) (rI CPowW fun i j => .int (i ^ j.toNat)) := opI fun i j _ _ _ _ _ hc q =>
  pow_int hc.1 (Int.le_trans (Int.mul_le_mul_of_nonneg_right (bits_le i) hc.1) hc.2) q
theorem powW_of {i : Int} {j : Nat} {a : Nat} (h : i.natAbs < 2 ^ a) (h0 : 0 < a) (hj : a * j ≤ 2 ^ 27) : CPowW i (j : Int) := by
  have := PySem.Flt.log2_lt_of h0 h
  refine ⟨Int.natCast_nonneg _, ?_⟩
  have e : ((i.natAbs.log2 : Int) + 1) * (j : Int) = (((i.natAbs.log2 + 1) * j : Nat) : Int) := by
    rw [Int.natCast_mul]
    rfl
  rw [e]
  have : (i.natAbs.log2 + 1) * j ≤ a * j := Nat.mul_le_mul_right _ this
  have : (i.natAbs.log2 + 1) * j ≤ 2 ^ 27 := Nat.le_trans this hj
  omega
/-! ### heaps -/
abbrev Ex := Evl.Ex
/-- all but the object at j is as it was -/
def Exj (j : Addr) (H H' : Hp) : Prop := ∀ b o, b ≠ j → H b = some o → H' b = some o
theorem Exj.refl (j : Addr) (H : Hp) : Exj j H H := fun _ _ _ h => h
theorem Exj.trans {j : Addr} {H H1 H2 : Hp} (a : Exj j H H1) (b : Exj j H1 H2) : Exj j H H2 := fun x o n h => b x o n (a x o n h)
theorem Exj.of {j : Addr} {H H' : Hp} (a : Ex H H') : Exj j H H' := fun x o _ h => a x o h
theorem Exj.upd {j : Addr} {H H' : Hp} {o : HO} (a : Exj j H H') : Exj j H (upd H' j o) := fun x u n h => by
  rw [upd_ne n]
  exact a x u n h
theorem Exj.new {j p : Addr} {H H' : Hp} {o : HO} (a : Exj j H H') (h : H' p = none) : Exj j H (L2.upd H' p o) := fun x u n e => by
  have := a x u n e
  rw [upd_ne (ne_of_none this h)]
  exact this
theorem Exj.sq {K : PySem.W.Frag} {j : Addr} {H H' : Hp} {a : Addr} {xs : List V} (e : Exj j H H') (n : a ≠ j) (h : SqL K H a xs) : SqL K H' a xs := by
  rcases h with (h | ⟨o, h⟩) | h
  · exact .inl (.inl (e _ _ n h))
  · exact .inl (.inr ⟨o, e _ _ n h⟩)
  · exact .inr h
/-- a new object, its heap by name -/
theorem newO {H : Hp} {o : HO} {P : V → Hp → Prop} (k : ∀ p H', H p = none → Ex H H' → H' p = some o → P (.ref p) H') : ∀ p, H p = none → P (.ref p) (L2.upd H p o) := fun p hp => k p _ hp (Evl.Ex.new hp) upd_same
theorem sqI {K : PySem.W.Frag} {H : Hp} {a : Addr} {xs : List V} (h : H a = some (.lst xs)) : SqL K H a xs := .inl (.inl h)
theorem sqT {K : PySem.W.Frag} {H : Hp} {a : Addr} {xs : List V} (h : H a = some (.tup xs)) : SqT K H a xs := .inl (.inl h)
/-! ### data: how a thing of Lean stands in the heap -/
/-- a way of writing things as data: it can be laid, it is no deeper than n, equal data are equal things -/
structure Good {α : Type} [DecidableEq α] (e : α → PyData) (n : Nat) : Prop where
  lay : ∀ x, (e x).canLay0 = true
  dep : ∀ x, (e x).depth ≤ n
  eqv : ∀ x y, PyData.eqv (e x) (e y) = decide (x = y)
def eL {α : Type} (e : α → PyData) (xs : List α) : PyData := .list (xs.map e)
def eT {α : Type} (e : α → PyData) (xs : List α) : PyData := .tuple (xs.map e)
def eP {α β : Type} (e : α → PyData) (f : β → PyData) (p : α × β) : PyData := .tuple [e p.1, f p.2]
theorem goodI : Good PyData.int 0 := ⟨fun _ => rfl, fun _ => Nat.le_refl _, fun x y => by
  show (x == y) = _
  rw [Bool.eq_iff_iff]
  simp⟩
theorem goodB : Good PyData.bool 0 := ⟨fun _ => rfl, fun _ => Nat.le_refl _, fun x y => by
  show (x == y) = _
  rw [Bool.eq_iff_iff]
  simp⟩
section
variable {α β : Type} [DecidableEq α] [DecidableEq β] {e : α → PyData} {f : β → PyData} {n m : Nat}
theorem Good.layAll (g : Good e n) : ∀ xs : List α, PyData.canLayAll0 (xs.map e) = true
  | [] => rfl
  | x :: xs => by
    show (PyData.canLay0 (e x) && PyData.canLayAll0 (xs.map e)) = true
    rw [g.layAll xs, g.lay x]
    rfl
theorem Good.depAll (g : Good e n) : ∀ xs : List α, PyData.depthAll (xs.map e) ≤ n
  | [] => Nat.zero_le _
  | x :: xs => by
    show max (PyData.depth (e x)) (PyData.depthAll (xs.map e)) ≤ n
    exact Nat.max_le.mpr ⟨g.dep x, g.depAll xs⟩
theorem Good.eqvAll (g : Good e n) : ∀ xs ys : List α, PyData.eqvAll (xs.map e) (ys.map e) = decide (xs = ys)
  | [], [] => rfl
  | [], _ :: _ => rfl
  | _ :: _, [] => rfl
  | x :: xs, y :: ys => by
    show (PyData.eqv (e x) (e y) && PyData.eqvAll (xs.map e) (ys.map e)) = _
    rw [g.eqvAll xs ys, g.eqv, Bool.eq_iff_iff]
    simp
theorem goodL (g : Good e n) : Good (eL e) (n + 1) := ⟨fun xs => g.layAll xs, fun xs => by
  show PyData.depthAll (xs.map e) + 1 ≤ n + 1
  have := g.depAll xs
  omega, fun xs ys => g.eqvAll xs ys⟩
theorem goodT (g : Good e n) : Good (eT e) (n + 1) := ⟨fun xs => g.layAll xs, fun xs => by
  show PyData.depthAll (xs.map e) + 1 ≤ n + 1
  have := g.depAll xs
  omega, fun xs ys => g.eqvAll xs ys⟩
theorem goodP (g : Good e n) (k : Good f n) : Good (eP e f) (n + 1) := ⟨fun p => by
    show (PyData.canLay0 (e p.1) && (PyData.canLay0 (f p.2) && true)) = true
    rw [g.lay, k.lay]
    rfl, fun p => by
    show max (PyData.depth (e p.1)) (max (PyData.depth (f p.2)) 0) + 1 ≤ n + 1
    have h1 := g.dep p.1
    have h2 := k.dep p.2
    have : max (PyData.depth (e p.1)) (max (PyData.depth (f p.2)) 0) ≤ n := Nat.max_le.mpr ⟨h1, Nat.max_le.mpr ⟨h2, Nat.zero_le _⟩⟩
    omega, fun p q => by
    show (PyData.eqv (e p.1) (e q.1) && (PyData.eqv (f p.2) (f q.2) && true)) = _
    rw [g.eqv, k.eqv, Bool.eq_iff_iff]
    obtain ⟨a, b⟩ := p
    obtain ⟨c, d⟩ := q
    simp⟩
theorem Good.shaped (g : Good e n) (h : n ≤ 64) (x : α) : SeqAt.shaped (e x) = true := by
  unfold SeqAt.shaped
  rw [g.lay x, decide_eq_true (Nat.le_trans (g.dep x) h)]
  rfl
/-- two things compared -/
theorem eqE {K : PySem.W.Frag} {H : Hp} {v u : V} {x y : α} {Q : VK} (g : Good e n) (hn : n ≤ 64) (h1 : Dp K H v (e x)) (h2 : Dp K H u (e y)) (q : Q (.bl (decide (x = y))) H) : rEqD K v u H Q :=
  ⟨_, _, h1, h2, g.shaped hn x, g.shaped hn y, by rw [g.eqv]; exact q⟩
theorem neE {K : PySem.W.Frag} {H : Hp} {v u : V} {x y : α} {Q : VK} (g : Good e n) (hn : n ≤ 64) (h1 : Dp K H v (e x)) (h2 : Dp K H u (e y)) (q : Q (.bl (!decide (x = y))) H) : rNeD K v u H Q :=
  ⟨_, _, h1, h2, g.shaped hn x, g.shaped hn y, by rw [g.eqv]; exact q⟩
end
theorem dpI {K : PySem.W.Frag} {H : Hp} : ∀ (ns : List Int), DpAll K H (ns.map V.int) (ns.map PyData.int)
  | [] => .nil
  | n :: ns => .cons (.int n) (dpI ns)
/-- a list of ints -/
theorem dpL {K : PySem.W.Frag} {H : Hp} {a : Addr} {ns : List Int} (h : SqL K H a (ns.map V.int)) : Dp K H (.ref a) (eL PyData.int ns) := .lst h (dpI ns)
theorem dpT {K : PySem.W.Frag} {H : Hp} {a : Addr} {ns : List Int} (h : SqT K H a (ns.map V.int)) : Dp K H (.ref a) (eT PyData.int ns) := .tup h (dpI ns)
/-- lists of ints compared -/
theorem eqI_ {K : PySem.W.Frag} {H : Hp} {a b : Addr} {xs ys : List Int} {Q : VK} (h1 : SqL K H a (xs.map V.int)) (h2 : SqL K H b (ys.map V.int)) (q : Q (.bl (decide (xs = ys))) H) : rEqD K (.ref a) (.ref b) H Q := eqE (goodL goodI) (by decide) (dpL h1) (dpL h2) q
theorem neI_ {K : PySem.W.Frag} {H : Hp} {a b : Addr} {xs ys : List Int} {Q : VK} (h1 : SqL K H a (xs.map V.int)) (h2 : SqL K H b (ys.map V.int)) (q : Q (.bl (!decide (xs = ys))) H) : rNeD K (.ref a) (.ref b) H Q := neE (goodL goodI) (by decide) (dpL h1) (dpL h2) q
/-! ### new objects, the heap behind them by a letter -/
section
variable {X : Cx} {es : List Expr} {t : TA} {pos : Pos}
theorem pe_weak {e : Expr} {t t' : TE} (h : PE X e t) (w : ∀ σ H Q, t' σ H Q → t σ H Q) : PE X e t' := ⟨fun pins s σ H Q I q => h.run pins s σ H Q I (w σ H Q q)⟩
def tCutA (t : TA) : TA := fun σ H Q => ∃ M : List V → Hp → Prop, t σ H M ∧ ∀ vs H', M vs H' → Q vs H'
theorem pa_cut (h : PA X es t) : PA X es (tCutA t) := ⟨fun pos pins s σ H Q I ⟨M, hm, hq⟩ => thn (h.run pos pins s σ H M I hm) fun us s1 ⟨xs, H1, I1, r, q⟩ => ⟨xs, H1, I1, r, hq xs H1 q⟩⟩
/-- a new thing o, at any free place of any heap that keeps H -/
def New (o : HO) (H : Hp) (Q : VK) : Prop := ∀ p H', H p = none → Ex H H' → H' p = some o → Q (.ref p) H'
theorem New.go {o : HO} {H : Hp} {Q : VK} (k : New o H Q) (p : Addr) (hp : H p = none) : Q (.ref p) (upd H p o) := k p _ hp (Evl.Ex.new hp) upd_same
def tLstG (t : TA) : TE := fun σ H Q => t σ H fun xs H1 => xs.length ≤ sizeLine ∧ New (.lst xs) H1 Q
def tTupG (t : TA) : TE := fun σ H Q => t σ H fun xs H1 => xs.length ≤ sizeLine ∧ New (.tup xs) H1 Q
theorem pe_lstG (h : PA X es t) : PE X (.List es pos) (tLstG t) := pe_weak (pe_lst (pa_cut h)) fun σ H Q q => ⟨_, q, fun _ _ z => ⟨z.1, fun p hp => z.2.go p hp⟩⟩
theorem pe_tupG {x1} (h : PA X es t) : PE X (.Tuple es x1 pos) (tTupG t) := pe_weak (pe_tup (pa_cut h)) fun σ H Q q => ⟨_, q, fun _ _ z => ⟨z.1, fun p hp => z.2.go p hp⟩⟩
def rCatG : R2 := fun x y H Q => ∃ l b xs zs, x = .ref l ∧ y = .ref b ∧ H l = some (.lst xs) ∧ H b = some (.lst zs) ∧ xs.length + zs.length ≤ sizeLine ∧ New (.lst (xs ++ zs)) H Q
theorem op_catG : OpR X (binaryOp .Add) rCatG := fun pins s σ H x y v u Q I rx ry ⟨l, b, xs, zs, h1, h2, h3, h4, h5, k⟩ => op_cat pins s σ H x y v u Q I rx ry ⟨l, b, xs, zs, h1, h2, h3, h4, h5, fun p hp => k.go p hp⟩
def rRepG : R2 := fun x y H Q => ∃ l k xs, x = .ref l ∧ y = .int k ∧ H l = some (.lst xs) ∧ -(2 ^ 63) ≤ k ∧ k < 2 ^ 63 ∧ xs.length * k.toNat ≤ sizeLine ∧ New (.lst (List.replicate k.toNat xs).flatten) H Q
theorem op_repG : OpR X (binaryOp .Mult) rRepG := fun pins s σ H x y v u Q I rx ry ⟨l, k, xs, h1, h2, h3, h4, h5, h6, z⟩ => op_rep pins s σ H x y v u Q I rx ry ⟨l, k, xs, h1, h2, h3, h4, h5, h6, fun p hp => z.go p hp⟩
def rSlG (K : PySem.W.Frag) : V → Option Int → Option Int → Hp → VK → Prop := fun x lo hi H Q => ∃ a xs, x = .ref a ∧ SqL K H a xs ∧ New (.lst (cutV xs lo hi)) H Q
theorem sl_listG : SlR X (rSlG X.K) := fun pins s σ H x v vl vu lo hi sl Q I rx hs pl pu ⟨a, xs, h1, h2, k⟩ => sl_list pins s σ H x v vl vu lo hi sl Q I rx hs pl pu ⟨a, xs, h1, h2, fun p hp => k.go p hp⟩
def rListG (K : PySem.W.Frag) : List V → Hp → VK → Prop := fun xs H Q => ∃ p ys, xs = [.ref p] ∧ (SqL K H p ys ∨ SqT K H p ys) ∧ New (.lst ys) H Q
theorem call_listG : CallR X (.type "list") (rListG X.K) := fun pins s σ H xs us Q I r ⟨p, ys, h1, h2, k⟩ => call_list_of pins s σ H xs us Q I r ⟨p, ys, h1, h2, fun p hp => k.go p hp⟩
def rTupleG (K : PySem.W.Frag) : List V → Hp → VK → Prop := fun xs H Q => ∃ p ys, xs = [.ref p] ∧ SqL K H p ys ∧ New (.tup ys) H Q
theorem call_tupleG : CallR X (.type "tuple") (rTupleG X.K) := fun pins s σ H xs us Q I r ⟨p, ys, h1, h2, k⟩ => call_tuple_of pins s σ H xs us Q I r ⟨p, ys, h1, .inl ⟨h2, fun p hp => k.go p hp⟩⟩
def rSortedG (K : PySem.W.Frag) : List V → Hp → VK → Prop := fun vs H Q => ∃ (a : Addr) (ns : List Int), vs = [V.ref a] ∧ SqL K H a (ns.map V.int) ∧ ∀ ns' : List Int, ns'.Perm ns → ns'.Pairwise (· ≤ ·) → New (.lst (ns'.map V.int)) H Q
theorem cr_sortedG : CallR X (.builtin "sorted") (rSortedG X.K) := fun pins s σ H xs us Q I r ⟨a, ns, h1, h2, k⟩ => cr_sortedI pins s σ H xs us Q I r ⟨a, ns, h1, h2, fun ns' p h3 h4 hp => (k ns' h3 h4).go p hp⟩
end
/-! ### slices -/
theorem cut_to (xs : List V) (n : Nat) : cutV xs none (some (n : Int)) = xs.take n := by
  unfold cutV
  rw [HT.sIx_none, HT.sIx_nat, List.drop_zero, Nat.sub_zero]
  by_cases h : n ≤ xs.length
  · rw [Nat.min_eq_left h]
  · rw [Nat.min_eq_right (by omega), List.take_of_length_le (Nat.le_refl _), List.take_of_length_le (by omega)]
theorem cut_from (xs : List V) (n : Nat) : cutV xs (some (n : Int)) none = xs.drop n := by
  unfold cutV
  rw [HT.sIx_none, HT.sIx_nat]
  by_cases h : n ≤ xs.length
  · rw [Nat.min_eq_left h, List.take_of_length_le (by rw [List.length_drop]; exact Nat.le_refl _)]
  · rw [Nat.min_eq_right (by omega), List.drop_eq_nil_of_le (Nat.le_refl _), List.drop_eq_nil_of_le (by omega)]
    exact List.take_nil
/-! ### ways that come together -/
section
variable {X : Cx}
def tCutE (te : TE) : TE := fun σ H Q => ∃ M : V → Hp → Prop, te σ H M ∧ ∀ v H', M v H' → Q v H'
def tCutT (tt : TT) : TT := fun σ H Q => ∃ M : Bool → Hp → Prop, tt σ H M ∧ ∀ b H', M b H' → Q b H'
def tCutS (t : TS) : TS := fun D σ H => ∃ M : L2.St → Hp → Prop, t { D with nx := M } σ H ∧ ∀ σ' H', M σ' H' → D.nx σ' H'
theorem pe_cut {e : Expr} {te : TE} (h : PE X e te) : PE X e (tCutE te) := ⟨fun pins s σ H Q I ⟨M, hm, hq⟩ => thn (h.run pins s σ H M I hm) fun v s1 ⟨x, H1, I1, r, q⟩ => ⟨x, H1, I1, r, hq x H1 q⟩⟩
theorem pt_cut {e : Expr} {tt : TT} (h : PT X e tt) : PT X e (tCutT tt) := ⟨fun pins s σ H Q I ⟨M, hm, hq⟩ => thn (h.run pins s σ H M I hm) fun b s1 ⟨H1, I1, q⟩ => ⟨H1, I1, hq b H1 q⟩⟩
theorem ps_cut {st : Stmt} {t : TS} (h : PS X st t) : PS X st (tCutS t) := by
  refine ⟨fun pins s σ H D I ⟨M, hm, hq⟩ => thn (h.run pins s σ H { D with nx := M } I hm) fun f s1 q => ?_⟩
  cases f with
  | next =>
    obtain ⟨σ', H', I', q⟩ := q
    exact ⟨σ', H', I', hq σ' H' q⟩
  | ret v => exact q
  | brk => exact q
  | cont => exact q
end
theorem ifF {c : Bool} {A B : Prop} (h : c = false) (k : B) : if c = true then A else B := by
  rw [h]
  exact iteF k
theorem ifT {c : Bool} {A B : Prop} (h : c = true) (k : A) : if c = true then A else B := by
  rw [h]
  exact iteT k
theorem ifB {c : Bool} {A B : Prop} (h1 : c = true → A) (h2 : c = false → B) : if c = true then A else B := by
  cases c with
  | true => exact iteT (h1 rfl)
  | false => exact iteF (h2 rfl)
/-! ### comprehensions without tests, the element without a trace -/
theorem lc_mapL {K : PySem.W.Frag} {a : Addr} {xs ys : List V} {j : Nat} {te : TE} {vs : List Nat} {σ : L2.St} {H1 : Hp} {D : Addr} {Qd : Hp → Prop} (hx : SqL K H1 a xs) (hD : H1 D = none) (hl : ys.length = xs.length) (hz : xs.length ≤ sizeLine)
    (hw : ∀ x, wipe ((wipe σ vs).set j (some x)) vs = wipe σ vs)
    (he : ∀ (i : Nat) x y H', Ex H1 H' → xs[i]? = some x → ys[i]? = some y → ∀ R : VK, (∀ H2, Ex H' H2 → R y H2) → te ((wipe σ vs).set j (some x)) H' R)
    (k : ∀ H', Ex H1 H' → H' D = some (.lst ys) → Qd H') :
    ∃ W : Nat → Nat → Hp → Prop, (∃ m, W 0 m (upd H1 D (.lst []))) ∧ ∀ i m H, W i m H →
      ((Itl K a).stop i H ∧ Qd H) ∨ ((Itl K a).go i H ∧ ∃ Nx : Hp → Prop, (∀ H', Nx H' → ∃ m', m' < m ∧ W (i + 1) m' H') ∧ ∀ x H', (Itl K a).yld i H x H' → gName j x (wipe σ vs) H' fun σ2 H2 => wipe σ2 vs = wipe σ vs ∧ tYes σ2 H2 fun b H3 =>
        if b = true then te σ2 H3 fun y H4 => ∃ acc, H4 D = some (.lst acc) ∧ acc.length < sizeLine ∧ Nx (upd H4 D (.lst (acc ++ [y]))) else Nx H3) := by
  refine lc_list (xs := xs) (fun i H' => Ex H1 H' ∧ H' D = some (.lst (ys.take i))) ⟨Evl.Ex.new hD, upd_same⟩ (fun i H' _ p => Evl.ex_l p.1 hx) (fun i x H' hi p => ?_) (fun H' p => k H' p.1 ?_)
  · have hi' : i < xs.length := (List.getElem?_eq_some_iff.mp hi).1
    have hy : ys[i]? = some (ys[i]'(by omega)) := List.getElem?_eq_getElem (by omega)
    refine ⟨hw x, ?_⟩
    show te ((wipe σ vs).set j (some x)) H' _
    refine he i x _ H' p.1 hi hy _ fun H2 e2 => ⟨ys.take i, e2 _ _ p.2, ?_, ?_⟩
    · rw [List.length_take]
      omega
    · refine ⟨Evl.Ex.mut (p.1.trans e2) hD, ?_⟩
      rw [upd_same, List.take_add_one, hy]
      rfl
  · have := p.2
    rw [List.take_of_length_le (by omega)] at this
    exact this
end My
set_option Elab.async false
set_option linter.all false
set_option maxRecDepth 100000
set_option maxHeartbeats 4000000
/-! Own errors whose __init__ says super().__init__("..") and keeps one field. -/
namespace My
open PySem PySem.Spec PyProof.Rows L2 NdefX
/-! ### the built-in __init__ bound to a new error, called -/
section
variable {prog : Program} {w : World} {A : Around} {E : Value → Shared → Prop} {h : Heap} {g : Array GenState} {d : Drawn} {t : Nat} {os : OsState}
variable {nm q : Str} {C N : Addr} {bs bm : List Value} {hdct : Bool} {sn : List Str} {sub : List Value} {ab : Bool} {col : Option Bool} {dd : Option Addr} {k0 k1 k2 k3 k5 : Option Value}
theorem call_mwV {u e t0 : Addr} {rest : List Value} {Q : Value → Shared → Prop}
    (hC : h.get? C = some (excClassObj nm q C N bs bm hdct sn sub ab col dd k0 k1 k2 k3 k5 "ValueError.__new__")) (he : h.get? e = some (HandSPX.excO C t0)) (hu : h.get? u = some (PySem.W.kxs_mw "ValueError.__init__" e)) (hrest : rest.length ≤ sizeLine)
    (hq : ∀ h' t1, (∀ b o, b ≠ e → h.get? b = some o → h'.get? b = some o) → h'.get? e = some (HandSPX.excO C t1) → Q .none ⟨h', g, d, t, os⟩) :
    wpAny (model prog w) A (call (.ref u) rest) Q E ⟨h, g, d, t, os⟩ := by
  refine wpAny_call (codeAny_of_tree ?_)
  show wpAny _ A.in1 (callAny (.ref u) ⟨rest, []⟩) _ _ _
  simp only [callAny]
  refine wpAny_bind (wpAny_load hu ?_)
  simp only [PySem.W.kxs_mw, show (Value.type "method-wrapper" == Value.type "method" || Value.type "method-wrapper" == Value.type "builtin_function_or_method" || Value.type "method-wrapper" == Value.type "method-wrapper") = true by decide, if_true]
  refine W.KFB.if_so (by decide) ?_
  refine wpAny_bind (ESX.check_bound F.excBase_ValueError hC he rfl ?_)
  refine wpAny_bind (wpAny_pure (wpAny_pure ?_))
  refine ⟨Code.quiet_builtin _ (by decide +kernel), codeAny_builtin F.excBase_ValueError.initEntry ?_⟩
  rw [Around.under_plainId F.excBase_ValueError.init.plain _]
  wp_walk
  refine hq _ h.objs.size (fun b o hb ho => ?_) ?_
  · rw [Heap.get?_update_other _ _ (Ne.symm hb)]
    exact Heap.get?_push_of_some _ ho
  · rw [Heap.get?_update_self _ (Heap.get?_push_of_some _ he) rfl]
    rfl
end
/-- what the written part says of the __init__ and of the class D that holds it -/
structure InitT (P : Program) (K : PySem.W.Frag) (mg : Str → Option Value) (st : Stmt) (qu : Str) (fI cc cda D : Addr) (fd : FuncData) : Prop where
  ex : ∃ (oc : Value) (od : Option Addr) (kV doc pm : Value) (an : Option Addr) (ct : Value) (osl : Array (Option Value)),
    fd = PySem.W.fnX "__init__" qu (defArgs st) (defBody st) (defScope st) [("__class__", cc)] .none kV doc pm an (.ref cda) ct ∧ K.lookup fI = some ⟨oc, od, .func fd, osl⟩
  code : PySem.W.codeIn K (.ref cda) qu = true
  cell : ∃ cl cld csl, K.lookup cc = some ⟨cl, cld, .cell (some (.ref D)), csl⟩
  file : ∃ (ccl : Value) (cdd : Option Addr) (ccs : Array (Option Value)) (vs : Array Value) (fl : Str) (tf : Tok), K.lookup cda = some ⟨ccl, cdd, .fields vs, ccs⟩ ∧ vs[2]? = some (.str fl tf) ∧ ((P.main.file : Str) == fl) = true
  cls : ∃ cdD, PySem.W.clsIn K D = some cdD
  sup : mg "super" = none
  top : (P.main.scope.names.lookup ("super" : Str)).isSome = false
  opq : PySem.W.nsIn K cStatics "thirdparty.any" = some none
/-- what it says of a class C of errors that has this __init__ -/
structure ErrC (K : PySem.W.Frag) (fI D C : Addr) : Prop where
  oex : OexC K C
  init : PySem.W.findIn K (.ref C) "__init__" = some (some (.ref fI))
  tI : PySem.W.typeIn K (.ref fI) = some (.type "function")
  nov : PySem.W.findIn K (.ref C) "value" = some none
  mro : PySem.W.mroIn K C (.ref D) = some true
  sin : PySem.W.ks_superIn K C D "__init__" = some (some (.builtin "ValueError.__init__"))
  sub : PySem.W.subIn K (.ref C) (.type "ValueError") = some true
  xf : XfC K C
/-- the first statement, super().__init__("..") -/
abbrev sSuper (p0 p1 p2 p3 p4 p5 : Pos) (x : Str) (j : Nat) : Stmt := .Expr (.Call (.Attribute (.Call (.Name "super" p0) [] [] p1) "__init__" p2) [.Constant (.str x) j p3] [] p4) p5
abbrev sKeep (p0 p1 p2 p3 : Pos) : Stmt := .Assign [.Attribute (.Name "self" p0) "value" p1] (.Name "value" p2) p3
/-- the promise: the new error at a has, behind it, its dict with the value -/
def spErr (K : PySem.W.Frag) (fI D : Addr) : Sp := fun vs H Q _ => ∃ (a C : Addr) (v : V), vs = [.ref a, v] ∧ ErrC K fI D C ∧ H a = some (exo a C none) ∧
  ∀ dx, H dx = none → dx ≠ a → Q .non (upd (upd H dx (exd dx [("value", v)])) a (exo a C (some dx)))
section
variable {P : Program} {w : World} {K : PySem.W.Frag} {mg : Str → Option Value} {base : Heap} {st : Stmt} {qu : Str} {fI cc cda D : Addr} {fd : FuncData}
theorem super_step {A : Around} {outer : List Env} {s0 : Shared} {H0 : Hp} {E0' : XK} {F : NF} {body : List Stmt} {p0 p1 p2 p3 p4 p5 : Pos} {x : Str} {j : Nat} {a C : Addr} {v : V} {H : Hp} {s : Shared} {ws : List (Option V)} {Q : Flow → Shared → Prop} {N : List Str}
    (T : InitT P K mg st qu fI cc cda D fd) (hF : F = ⟨"__init__", qu, defArgs st, defBody st, defScope st, [("__class__", cc)], cda⟩) (TC : ErrC K fI D C)
    (hks : (defScope st).names.lookup ("super" : Str) = some .globalImplicit) (hkc : (defScope st).names.lookup ("__class__" : Str) = some .free) (hka : (defScope st).names.lookup ("self" : Str) = some .local) (hk : (defScope st).kind = .function)
    (hp : ((defArgs st).posonlyargs ++ (defArgs st).args).head?.map (·.arg) = some ("self" : Str)) (hN : N[0]? = some ("self" : Str))
    {pl : Sem Bool} (hev : ∀ env : Env, eval (.Call (.Attribute (.Call (.Name "super" p0) [] [] p1) "__init__" p2) [.Constant (.str x) j p3] [] p4) env = (do
      let ov ← attributeBase (.Call (.Name "super" p0) [] [] p1) "__init__" env (eval (.Call (.Name "super" p0) [] [] p1) env)
      standAt p2.atName
      let (f, first) ← holding [ov] (getMethod ov "__init__" pl)
      callWith p4 f first (backTo p4 (starEach [.Constant (.str x) j p3] env)) []))
    (I : Inv (ncx CX0 P w K mg base N F fI A outer s0 H0 E0') [] (some (.ref a) :: some v :: ws) H s) (ha : H a = some (exo a C none))
    (h : ∀ s', Inv (ncx CX0 P w K mg base N F fI A outer s0 H0 E0') [] (some (.ref a) :: some v :: ws) H s' → Q .next s') :
    _root_.PySem.wpAt (model P w) (ncx CX0 P w K mg base N F fI A outer s0 H0 E0').A (.func body (ncx CX0 P w K mg base N F fI A outer s0 H0 E0').env) (exec (sSuper p0 p1 p2 p3 p4 p5 x j) (ncx CX0 P w K mg base N F fI A outer s0 H0 E0').env) Q (ncx CX0 P w K mg base N F fI A outer s0 H0 E0').xe s := by
  subst hF
  obtain ⟨oc, od, kV, doc, pm, an, ct, osl, efd, lk⟩ := T.ex
  obtain ⟨cl, cld, csl, hcell⟩ := T.cell
  obtain ⟨ccl, cdd, ccs, vs, fl, tf, hcode, hvs, hfile⟩ := T.file
  obtain ⟨cdD, hD⟩ := T.cls
  obtain ⟨nm, q, N', bs, bm, sn, sub, ab, col, dd, k0, k1, k2, k3, k5, hC, hbm⟩ := TC.oex.cls
  have hcl : PySem.W.clsIn K C = some { name := nm, bases := bs, mro := .ref C :: bm, ns := N', qualname := q, hasDict := true, slotNames := sn, subclasses := sub, abstract := ab, collection := col, hasDel := false } := by unfold PySem.W.clsIn; rw [hC] <;> rfl
  have KX : K.In s.heap := I.kIn
  obtain ⟨ar, har, harg⟩ : ∃ ar, ((defArgs st).posonlyargs ++ (defArgs st).args).head? = some ar ∧ ar.arg = ("self" : Str) := by
    cases e : ((defArgs st).posonlyargs ++ (defArgs st).args).head? with
    | none => rw [e] at hp; cases hp
    | some ar => rw [e] at hp; exact ⟨ar, rfl, Option.some.inj hp⟩
  obtain ⟨oD, hD1, hD2⟩ : ∃ oD, s.heap.get? D = some oD ∧ oD.data = .cls cdD := by
    unfold PySem.W.clsIn at hD
    split at hD
    · rename_i c d cd' sl ho
      cases hD
      exact ⟨_, KX _ _ ho, rfl⟩
    · cases hD
  obtain ⟨t1, hoe⟩ := exo_at I.hok ha
  -- the name self
  obtain ⟨m, hns, hl⟩ := id I.loc
  obtain ⟨u0, ru, lu⟩ := hl 0 "self" (.ref a) hN rfl (.inl hka)
  obtain rfl : u0 = Value.ref a := ru
  have hself : m "self" = some (.ref a) := by
    rcases lu with ⟨_, q⟩ | ⟨q, _⟩
    · exact q
    · have e : (defScope st).names.lookup ("self" : Str) = some .cell ∨ (defScope st).names.lookup ("self" : Str) = some .free := q
      rw [hka] at e
      rcases e with z | z <;> cases z
  obtain ⟨mb, hb1, hb2⟩ := I.mod.blt
  refine ks_wpAt_Expr_any (ks_wpAt_MethodCall ?_ (hev _)) (I.quiet) rfl
  refine ks_wpAt_super_base hks hkc (by decide) rfl (KX _ _ lk) (by rw [efd]) (ar := ar) har rfl (KX _ _ hcode) rfl hvs hfile T.top ?_
  refine PySem.W.ks_loadName_global hk hks (Calls.loadGlobal_builtin (I.mod.glob.keeps I.bk) T.sup (hb1.keeps I.bk) ((hb2 _ (by decide)).trans (by decide +kernel)) ⟨rfl, ?_⟩)
  refine wpAny_loadName_free hk hkc rfl ⟨_, KX _ _ hcell, rfl⟩ ?_
  rw [harg]
  refine wpAny_loadName_local hk hka hns hself ?_
  refine ks_wpAny_isType_cls hD1 hD2 ⟨rfl, ?_⟩
  obtain ⟨hp0, g, d, t, os⟩ := s
  refine ks_wpAny_call_super hD1 hD2 hoe rfl (fun c e => by cases e) (PySem.W.looks_mroIn KX TC.mro) (fun h1 e1 k1' => ?_)
  have I1 : Inv (ncx CX0 P w K mg base N ⟨"__init__", qu, defArgs st, defBody st, defScope st, [("__class__", cc)], cda⟩ fI A outer s0 H0 E0') [] (some (.ref a) :: some v :: ws) H ⟨h1, g, d, t, os⟩ := I.kept (h' := h1) (t' := t) k1'
  have KX1 : K.In h1 := I1.kIn
  have hoe1 := k1' _ _ hoe
  have hnaC : a ≠ C := by
    rintro rfl
    have z := KX _ _ hC
    rw [hoe] at z
    cases z
  have hI1 : PySem.W.Looks (model P w) h1 (isInstance (.ref a) (.type "ValueError")) true := (show PySem.W.InstAt h1 a _ C none from ⟨hoe1, rfl, rfl, trivial⟩).type.andThen (PySem.W.looks_subIn KX1 TC.sub)
  have hsin := TC.sin
  unfold PySem.W.ks_superIn at hsin
  rw [hcl, Option.bind_some] at hsin
  refine PySem.W.kxs_getMethod PySem.W.kxs_ValueError e1 (PySem.W.looks_opaque KX1 T.opq) (l₀ := .ref C :: bm) ?_ rfl KX1 hsin hI1 hnaC (by decide) ?_
  · exact fun A Q E s k q => wpAny_bind ((PySem.W.looks_clsIn KX1 hcl) A _ E s k (wpAny_pure q))
  have I2 : Inv (ncx CX0 P w K mg base N ⟨"__init__", qu, defArgs st, defBody st, defScope st, [("__class__", cc)], cda⟩ fI A outer s0 H0 E0') [] (some (.ref a) :: some v :: ws) H ⟨h1.push (PySem.W.kxs_mw "ValueError.__init__" a), g, d, t + 1, os⟩ := I1.kept (t' := t + 1) fun b o e => Heap.get?_push_of_some _ e
  have hu2 : (h1.push (PySem.W.kxs_mw "ValueError.__init__" a)).get? h1.objs.size = some (PySem.W.kxs_mw "ValueError.__init__" a) := Heap.get?_push_at rfl rfl
  have hoe2 : (h1.push (PySem.W.kxs_mw "ValueError.__init__" a)).get? a = _ := Heap.get?_push_of_some _ hoe1
  show wpAny _ _ (callWith p4 (.ref h1.objs.size) [] (backTo p4 (starEach [.Constant (.str x) j p3] _)) []) _ _ _
  refine PySem.W.kxs_callWith (i := "ValueError.__init__") (x := a) rfl (PySem.Calls.evalArgs_plain ?_)
  refine args_cons (Calls.Constant_str (args_nil ⟨hu2, ?_⟩)) rfl
  have I3 := I2.tok (t + 1 + 1)
  refine call_mwV (KX1.keeps (fun b o e => Heap.get?_push_of_some _ e) _ _ hC) hoe2 hu2 (by show 1 ≤ sizeLine; decide) (fun h' t' k he => ?_)
  have J := I3.write (t' := t + 1 + 1) (x := a) (e := a) (o := exo a C none) (by rw [ha]; exact True.intro) (.inl rfl) k ⟨_, he⟩ (exo_ok he)
  have eu : upd H a (exo a C none) = H := by
    funext b
    by_cases hb : b = a
    · rw [hb, upd_same, ha]
    · rw [upd_ne hb]
  rw [eu] at J
  exact h _ J
theorem ok_err {p0 p1 p2 p3 p4 p5 q0 q1 q2 q3 : Pos} {x : Str} {j : Nat} {pl : Sem Bool} (T : InitT P K mg st qu fI cc cda D fd) (S : NScope ["self", "value", "__class__"] ["self", "value"] ["__class__"] (defScope st))
    (hbd : defBody st = [sSuper p0 p1 p2 p3 p4 p5 x j, sKeep q0 q1 q2 q3]) (hks : (defScope st).names.lookup ("super" : Str) = some .globalImplicit)
    (hp : ((defArgs st).posonlyargs ++ (defArgs st).args).head?.map (·.arg) = some ("self" : Str))
    (hev : ∀ env : Env, eval (.Call (.Attribute (.Call (.Name "super" p0) [] [] p1) "__init__" p2) [.Constant (.str x) j p3] [] p4) env = (do
      let ov ← attributeBase (.Call (.Name "super" p0) [] [] p1) "__init__" env (eval (.Call (.Name "super" p0) [] [] p1) env)
      standAt p2.atName
      let (f, first) ← holding [ov] (getMethod ov "__init__" pl)
      callWith p4 f first (backTo p4 (starEach [.Constant (.str x) j p3] env)) [])) : FnOk P w K mg base CX0 1 fI fd ["self", "value"] (spErr K fI D) := by
  refine ⟨fun vs H Q E h => by obtain ⟨a, C, v, rfl, _⟩ := h; rfl, fun A outer s H args us vs Q E hr e0 hb r hsp => ?_⟩
  have KX : K.In s.heap := e0.mod.kin.keeps fun b o e => (e0.bs b o e).1
  have lim : s.heap.NoLimit := e0.mod.nolimit.keeps fun b o e => (e0.bs b o e).1
  obtain ⟨oc, od, kV, doc, pm, an, ct, osl, efd, lk⟩ := id T.ex
  obtain ⟨cl, cld, csl, hcell⟩ := T.cell
  obtain ⟨a, C, v, ev, TC, ha, k⟩ := hsp
  subst ev
  have hl : [V.ref a, v].length = (["self", "value"] : List Str).length := rfl
  have hC : CellsAt [(("__class__" : Str), cc)] ["__class__"] [some (.ref D)] s.heap H := by
    have hb := e0.mod.kin _ _ hcell
    have hs := e0.bs _ _ hb
    have key : ∀ {y : Str} {c : Addr}, ([(("__class__" : Str), cc)] : List (Str × Addr)).lookup y = some c → c = cc ∧ y = "__class__" := fun {y c} e => by
      have z := PySem.mem_of_lookup e
      have z' : (y, c) = (("__class__" : Str), cc) := by simpa using z
      exact ⟨congrArg Prod.snd z', congrArg Prod.fst z'⟩
    refine ⟨rfl, fun y c e => ?_, fun y z c e1 e2 => (key e1).2.trans (key e2).2.symm, fun i y e => ?_⟩
    · obtain ⟨rfl, rfl⟩ := key e
      exact ⟨hs.2, _, _, hs.1, rfl⟩
    · cases i with
      | zero =>
        have e' : ("__class__" : Str) = y := Option.some.inj e
        subst e'
        refine ⟨cc, by simp [List.lookup], fun u hu => ?_⟩
        have hu' : some (some (V.ref D)) = some (some u) := hu
        cases hu'
        exact ⟨.ref D, rfl, _, hs.1, rfl⟩
      | succ i => simp at e
  have hfd : (K.lookup fI) = some ⟨oc, od, .func (PySem.W.fnX "__init__" qu (defArgs st) (defBody st) (defScope st) [("__class__", cc)] .none kV doc pm an (.ref cda) ct), osl⟩ := by rw [← efd]; exact lk
  refine codeAny_call_function hr.depth (KX _ _ hfd) rfl S.co S.gen rfl (PySem.W.codeRec_of KX T.code) ?_
  have hb' := hb
  rw [efd] at hb'
  refine hb' _ _ _ _ ?_
  refine wpAny_newFunctionEnv S.nocell (fun ⟨n, _⟩ hy => S.par n (List.of_mem_zip hy).1) (fun h₁ hns hsb => ⟨lim.fresh _ hsb, ?_⟩) S.kind
  have kp : ∀ b o, s.heap.get? b = some o → h₁.get? b = some o := fun b o e => hsb.extBut b o (Nat.ne_of_lt (Heap.lt_size e)) (Heap.get?_push_of_some _ e)
  have I : Inv (ncx CX0 P w K mg base ["self", "value", "__class__"] ⟨"__init__", qu, defArgs st, defBody st, defScope st, [("__class__", cc)], cda⟩ fI A outer s H E) [] (startF ["self", "value", "__class__"] [V.ref a, v] [some (.ref D)]) H { s with heap := h₁, toks := s.toks + ((["self", "value"] : List Str).zip us).length } :=
    inv_startN (F := ⟨"__init__", qu, defArgs st, defBody st, defScope st, [("__class__", cc)], cda⟩) S hr.hd e0 hl r hC hns kp
  refine ks_codeAny_funcAt (env := (ncx CX0 P w K mg base ["self", "value", "__class__"] ⟨"__init__", qu, defArgs st, defBody st, defScope st, [("__class__", cc)], cda⟩ fI A outer s H E).env) (body := defBody st) ?_
  rw [show execs (defBody st) = execs [sSuper p0 p1 p2 p3 p4 p5 x j, sKeep q0 q1 q2 q3] from congrArg execs hbd]
  refine ks_wpAt_execs_cons (super_step T rfl TC hks (S.frk _ (by simp)) (S.par _ (by simp)) S.kind hp rfl hev I ha fun s' I' => ?_)
  have hpst : PSs (ncx CX0 P w K mg base ["self", "value", "__class__"] ⟨"__init__", qu, defArgs st, defBody st, defScope st, [("__class__", cc)], cda⟩ fI A outer s H E) [sKeep q0 q1 q2 q3] _ :=
    pss_one (ps_ost (pe_var (i := 0) rfl (.inl (S.par _ (by simp)))) (pe_var (i := 1) rfl (.inl (S.par _ (by simp)))))
  have run := hpst.run [] s' _ H { nx := fun _ H' => Q .non H', rt := Q } I' ⟨_, rfl, _, rfl, a, C, rfl, TC.oex, TC.nov, .inl ⟨ha, k⟩⟩
  refine wpAt_of_wpAny (wpAny_mono run (fun fl s2 hs => ?_) fun e s2 hs => hs)
  have fin : ∀ {σ' : L2.St} {H' : Hp} {v : V} {u : Value}, Inv (ncx CX0 P w K mg base ["self", "value", "__class__"] ⟨"__init__", qu, defArgs st, defBody st, defScope st, [("__class__", cc)], cda⟩ fI A outer s H E) [] σ' H' s2 → L2.RelV v u → Q v H' → CE outer P w H s Q u s2 :=
    fun {σ' H' v u} J rv q => ⟨v, H', J.os, J.bare, J.base, J.hok, rv, q⟩
  cases fl with
  | ret u =>
    obtain ⟨v, σ', H', J, rv, q⟩ := hs
    exact fin J rv q
  | next =>
    obtain ⟨σ', H', J, q⟩ := hs
    exact fin (v := V.non) (u := Value.none) J rfl q
  | brk =>
    obtain ⟨_, _, _, q⟩ := hs
    exact False.elim q
  | cont =>
    obtain ⟨_, _, _, q⟩ := hs
    exact False.elim q
end
/-! ### raise X(e) -/
/-- an error of the class at C with the value v is what is wanted -/
def Raised (C : Addr) (v : V) (H : Hp) (E : XK) : Prop := ∀ d H', H d = none → Ex H H' → H' d = some (.xd [("value", v)]) → E (.ref C) (some d) H'
def tErr (C : Addr) (ta : TA) : L2.St → Hp → XK → Prop := fun σ H Q => ta σ H fun vs H1 => ∃ v, vs = [v] ∧ Raised C v H1 Q
section
variable {X : Cx} {K : PySem.W.Frag} {fI D C : Addr} {fd : FuncData} {x : Str} {p pos : Pos} {e : Expr} {ta : TA}
theorem pmk_err (F : FnOk X.prog X.w X.K X.mg X.base CX0 1 fI fd ["self", "value"] (spErr X.K fI D)) (hb : Binds X.K fd ["self", "value"] []) (TC : ErrC X.K fI D C) (hr : Room 2 X.A) (hg : Gl X x) (hm : X.mg x = some (.ref C)) (ha : PA X [e] ta)
    (hdb : (x == ("__debug__" : Str)) = false := by decide) (he : starEach [e] X.env = (false, eval e X.env) :: starEach [] X.env := by rfl) (hpl : (backTo pos (starEach [] X.env)).any (·.1) = false := by rfl) :
    PMk X (.Call (.Name x p) [e] [] pos) (tErr C ta) := fun pins s σ H Q I h => by
  refine pmk_oex (sp := spErr X.K fI D) (dvs := []) TC.oex TC.init TC.tI F hr hb .nil pass0 hg hm (pa_cut ha) hdb he hpl pins s σ H Q I ⟨_, h, fun vs H1 z => ?_⟩
  obtain ⟨v, rfl, k⟩ := z
  refine ⟨by show 1 ≤ 1000; decide, fun a hn => ⟨a, C, v, rfl, TC, upd_same, fun dx hdx ne => ⟨rfl, dx, [("value", v)], upd_same, by rw [upd_ne ne, upd_same], ?_, ?_⟩⟩⟩
  · rw [upd_ne ne] at hdx
    exact hdx
  · rw [upd_ne ne] at hdx
    refine k dx _ hdx (fun b o hb => ?_) upd_same
    have n1 := ne_of_none hb hdx
    have n2 := ne_of_none hb hn
    rw [upd_ne n1, del_ne n2, upd_ne n2, upd_ne n1, upd_ne n2]
    exact hb
end
/-- calls of a def that may raise, in one that may -/
theorem passX {P : Program} {w : World} {K : PySem.W.Frag} {mg : Str → Option Value} {base : Heap} {N : List Str} {qual : Str} {scope : Scope} {f : Addr} {cd : Value} {A : Around} {outer : List Env} {s : Shared} {H : Hp} {E : XK} :
    Passes (L2.CX P w) (cxOf (L2.CX P w) P w K mg base N qual scope f cd A outer s H E) E := passes_call (X := cxOf (L2.CX P w) P w K mg base N qual scope f cd A outer s H E) (takes_of rfl rfl rfl rfl) (fun _ _ _ _ h => h)
/-! ### what the head's facts give -/
theorem along_ve (K : PySem.W.Frag) : PySem.W.alongIn K "__init__" PySem.HandSPX.veTail = some (some (.builtin "ValueError.__init__")) := by kernel_rfl
section
variable {K : PySem.W.Frag} {nm q : Str} {C D N : Addr} {bs : List Value} {sn : List Str} {sub : List Value} {ab : Bool} {col : Option Bool} {dd : Option Addr} {k0 k1 k2 k3 k5 : Option Value}
theorem sup_self (h : K.lookup C = some (excClassObj nm q C N bs PySem.HandSPX.veTail true sn sub ab col dd k0 k1 k2 k3 k5 "ValueError.__new__")) (e : C = D) : PySem.W.ks_superIn K C D "__init__" = some (some (.builtin "ValueError.__init__")) := by
  subst e
  unfold PySem.W.ks_superIn PySem.W.clsIn
  rw [h]
  show PySem.W.alongIn K "__init__" (((Value.ref C :: PySem.HandSPX.veTail).dropWhile (· != .ref C)).drop 1) = _
  rw [ESX.drop_own]
  exact along_ve K
theorem sup_child (h : K.lookup C = some (excClassObj nm q C N bs (.ref D :: PySem.HandSPX.veTail) true sn sub ab col dd k0 k1 k2 k3 k5 "ValueError.__new__")) (e : (C == D) = false) : PySem.W.ks_superIn K C D "__init__" = some (some (.builtin "ValueError.__init__")) := by
  unfold PySem.W.ks_superIn PySem.W.clsIn
  rw [h]
  show PySem.W.alongIn K "__init__" (((Value.ref C :: Value.ref D :: PySem.HandSPX.veTail).dropWhile (· != .ref D)).drop 1) = _
  have ne : ((Value.ref C : Value) != .ref D) = true := by
    have : C ≠ D := by simpa using e
    simp [this]
  rw [List.dropWhile_cons, if_pos ne, ESX.drop_own]
  exact along_ve K
theorem exm_gen {S S' : Addr} {b : Bool} (h1 : PySem.W.subIn K (.ref S') (.type "BaseException") = some true) (h2 : PySem.W.isClsIn K S' = true) (h3 : PySem.W.typeIn K (.ref S') = some (.type "type")) (h4 : PySem.W.subIn K (.ref S) (.ref S') = some b) :
    PySem.W.exmOne K (.ref S) (.ref S') = some b := by
  have e1 : (PySem.W.subIn K (.ref S') (.type "BaseException") == some true) = true := by rw [h1] <;> rfl
  have e2 : ((PySem.W.clsIn K S').isSome && PySem.W.typeIn K (.ref S') == some (.type "type")) = true := by
    have h2' : (PySem.W.clsIn K S').isSome = true := h2
    rw [h2', h3] <;> rfl
  show (if (PySem.W.subIn K (.ref S') (.type "BaseException") == some true) = true then (if ((PySem.W.clsIn K S').isSome && PySem.W.typeIn K (.ref S') == some (.type "type")) = true then PySem.W.subIn K (.ref S) (.ref S') else none) else none) = some b
  rw [if_pos e1, if_pos e2]
  exact h4
end
end My
set_option Elab.async false
set_option linter.all false
set_option maxRecDepth 100000
set_option maxHeartbeats 4000000
/-! Further rules: sum of a tuple, len of a range, calls by keywords of a def that may raise. -/
namespace My
open PySem PySem.Spec PyProof.Rows L2
section
variable {prog : Program} {w : World} {A : Around} {E : Value → Shared → Prop} {s : Shared} {l : Addr} {its : List Value} {ns : List Int} {Q : Value → Shared → Prop}
theorem sum_tupRaw (hh : A.handled = none) (hl : s.heap.IsTuple l its.toArray) (hi : IntsAre its ns)
    (h : ∀ h' tk t', (∀ b o, s.heap.get? b = some o → h'.get? b = some o) → Q (.int ns.sum t') { s with heap := h', toks := tk }) : wpAny (model prog w) A (call (.builtin "sum") [.ref l]) Q E s := by
  obtain ⟨xs, e⟩ := hi.allInts.items
  have hn : numsOf (intItems xs).toList = ns := by rw [← e]; exact hi.numsOf
  rw [nums_intItems] at hn
  rw [e] at hl
  have hlt : l < s.heap.objs.size := by obtain ⟨_, e, _⟩ := hl; exact Heap.lt_size e
  refine call_sum_walkG (wpAny_pyIter_tuple hl ?_)
  refine ⟨_, _, _, _, _, _, numAt xs, rfl, Walks.tuple (A := A.in1) hh _ l (Nat.ne_of_lt hlt) (intItems xs), ⟨⟨_, Heap.get?_push_size _ rfl, rfl, rfl⟩, ?_⟩, (fun b hb => ?_), (fun _ _ => intItems_at), fun h' tk t' hk => ?_⟩
  · obtain ⟨o, e1, e2⟩ := hl
    exact ⟨o, Heap.get?_push_of_some _ e1, e2⟩
  · show b < (s.heap.push _).objs.size
    rw [Heap.size_push]
    rcases List.mem_cons.mp hb with rfl | hb
    · exact Nat.lt_succ_self _
    · rcases List.mem_cons.mp hb with rfl | hb
      · exact Nat.lt_succ_of_lt hlt
      · cases hb
  · have := h h' tk t' (fun b o e => hk b o (fun hm => by
      have z : b = s.heap.objs.size := by simpa using hm
      exact Nat.ne_of_lt (Heap.lt_size e) z) (Heap.get?_push_of_some _ e))
    have e2 : preSum (numAt xs) (intItems xs).size = ns.sum := by
      rw [preSum_eq, List.take_of_length_le (by simp [intItems]), hn]
    rw [e2]
    exact this
end
section
variable {X : Cx}
def rSumT (K : PySem.W.Frag) : List V → Hp → VK → Prop := fun vs H Q => ∃ (a : Addr) (ns : List Int), vs = [V.ref a] ∧ SqT K H a (ns.map V.int) ∧ Q (.int ns.sum) H
theorem cr_sumT (hc : X.calm = true) : CallR X (.builtin "sum") (rSumT X.K) := by
  intro pins s σ H vs us Q I r h
  obtain ⟨a, ns, rfl, hs, q⟩ := h
  obtain ⟨its, rv, hl, _⟩ := I.tuple hs
  rw [Vals.ref1 r]
  exact sum_tupRaw (I.ok.hd hc) hl rv.ints fun h' tk t' hk => ⟨.int _, H, I.kept hk, ⟨_, rfl⟩, q⟩
/-- len(range(a, b)) -/
def rLenR : List V → Hp → VK → Prop := fun vs H Q => ∃ (p : Addr) (lo hi : Int), vs = [V.ref p] ∧ H p = some (.rng lo hi) ∧ hi - lo < 2 ^ 62 ∧ Q (.int (if lo < hi then hi - lo else 0)) H
theorem call_lenR : CallR X (.builtin "len") rLenR := by
  intro pins s σ H vs us Q I r h
  obtain ⟨p, lo, hi, rfl, hp, hz, q⟩ := h
  rw [Vals.ref1 r]
  obtain ⟨t, u, v, ho⟩ := (show ObjOk X.prog X.w H s.heap p (.rng lo hi) from I.hok p _ hp)
  have e : ((if lo < hi then hi - lo else 0 : Int)) = (((if lo < hi then hi - lo else 0 : Int)).toNat : Int) := by split <;> omega
  refine call_len_range (n := ((if lo < hi then hi - lo else 0 : Int)).toNat) (a := lo) (b := hi) (c := 1) ho ?_ ?_ ?_
  · rw [rangeSize_one, ← e]
  · rw [← e]
    split <;> omega
  · rw [← e]
    exact ⟨.int _, H, I.tok _, ⟨_, rfl⟩, q⟩
def rRangeG : List V → Hp → VK → Prop := fun vs H Q => ∃ i j, vs = [V.int i, V.int j] ∧ New (.rng i j) H Q
theorem cr_rangeG : CallR X (.type "range") rRangeG := fun pins s σ H xs us Q I r ⟨i, j, h1, k⟩ => cr_range2 pins s σ H xs us Q I r ⟨i, j, h1, fun p hp => k.go p hp⟩
end
section
variable {X : Cx} {CX : CXT} {k : Nat} {f C : Addr} {fd : FuncData} {ps ks : List Str} {sp : Sp} {E : L2.St → XK} {x m : Str} {p pos apos kpos : Pos} {kws : List Keyword} {tk : TA} {g : List Value → List Value → List Value} {gV : List V → List V → List V}
theorem run_fnkS {pins : List (Addr × Obj)} {σ : L2.St} {H : Hp} {s : Shared} {Q : VK} {us ws : List Value} {vs zs : List V} (F : FnOk X.prog X.w X.K X.mg X.base CX k f fd ps sp) (hr : Room k X.A) (hb : KBinds X.K fd ps ks g gV) (hx : PassesAt CX X σ (E σ))
    (I : Inv X pins σ H s) (r : Vals vs us) (rz : Vals zs ws) (h : sp (gV vs zs) H Q (E σ)) : wpAny (model X.prog X.w) X.A (call (.ref f) us (ks.zip ws)) (EP X pins σ Q) X.xe s := by
  have r2 := hb.rel r rz
  have hl : (g us ws).length = ps.length := by rw [← r2.length]; exact F.len _ _ _ _ h
  refine wpAny_call (codeAny_mono (F.run X.A X.stack s H ⟨us, ks.zip ws⟩ (g us ws) (gV vs zs) Q (E σ) hr I.env0 (hb.to s us ws I.kIn hl) r2 h) fun r s' hq => ?_)
  cases r with
  | error e => exact hx pins H s e s' I hq
  | ok fl =>
    cases fl with
    | ret u => exact I.after hq
    | next => exact False.elim hq
    | brk => exact False.elim hq
    | cont => exact False.elim hq
def tCallKS (sp : Sp) (gV : List V → List V → List V) (E : L2.St → XK) (t tk : TA) : TE := fun σ H Q => t σ H fun vs H1 => tk σ H1 fun zs H2 => sp (gV vs zs) H2 Q (E σ)
/-- f(k = v, ..) in a try -/
theorem pe_callK0S (F : FnOk X.prog X.w X.K X.mg X.base CX k f fd ps sp) (hr : Room k X.A) (hg : Gl X x) (hm : X.mg x = some (.ref f)) (hk : PySem.W.keepIn X.K (.ref f) = true) (hb : KBinds X.K fd ps ks g gV) (hx : ∀ σ, PassesAt CX X σ (E σ))
    (hkw : PK X kws tk) (hall : (backToKw pos (keywordEach kws X.env)).all (·.1.isSome) = true := by rfl) (hks : (backToKw pos (keywordEach kws X.env)).filterMap (·.1) = ks := by rfl)
    (hdb : (x == ("__debug__" : Str)) = false := by decide)
    (hpl : ((backTo pos (starEach [] X.env)).any (·.1) || (backToKw pos (keywordEach kws X.env)).any (·.1.isNone)) = false := by rfl) :
    PE X (.Call (.Name x p) [] kws pos) (tCallKS sp gV E tNil tk) := by
  refine ⟨fun pins s σ H Q I h => ?_⟩
  refine wpAny_Call_Name_kw (ld_glob I hg hm ?_ hdb)
  refine PySem.W.callWith_KW0 (h₀ := X.base) I.ok.mod.kin hk hall ?_ hpl
  refine thn (hkw.run pos pins s σ H _ I h) fun ws s2 ⟨zs, H2, I2, rz, q2⟩ => ⟨I2.kIn, ?_⟩
  rw [hks]
  exact run_fnkS (us := []) (vs := []) F hr hb (hx σ) I2 .nil rz q2
variable {e : Expr} {es : List Expr} {t : TA}
/-- f(e, .., k = v, ..) in a try -/
theorem pe_callKS (F : FnOk X.prog X.w X.K X.mg X.base CX k f fd ps sp) (hr : Room k X.A) (hg : Gl X x) (hm : X.mg x = some (.ref f)) (hk : PySem.W.keepIn X.K (.ref f) = true) (hb : KBinds X.K fd ps ks g gV) (hx : ∀ σ, PassesAt CX X σ (E σ))
    (ha : PA X (e :: es) t) (hkw : PK X kws tk) (hall : (backToKw pos (keywordEach kws X.env)).all (·.1.isSome) = true := by rfl) (hks : (backToKw pos (keywordEach kws X.env)).filterMap (·.1) = ks := by rfl)
    (hdb : (x == ("__debug__" : Str)) = false := by decide) (he : starEach (e :: es) X.env = (false, eval e X.env) :: starEach es X.env := by rfl)
    (hpl : ((backTo pos (starEach (e :: es) X.env)).any (·.1) || (backToKw pos (keywordEach kws X.env)).any (·.1.isNone)) = false := by rfl) :
    PE X (.Call (.Name x p) (e :: es) kws pos) (tCallKS sp gV E t tk) := by
  refine ⟨fun pins s σ H Q I h => ?_⟩
  refine wpAny_Call_Name_kw (ld_glob I hg hm ?_ hdb)
  refine PySem.W.callWith_KW (h₀ := X.base) I.ok.mod.kin hk hall (thn (ha.run pos pins s σ H _ I h) fun us s1 ⟨vs, H1, I1, r, q⟩ => ?_) hpl he
  refine thn (hkw.run pos pins s1 σ H1 _ I1 q) fun ws s2 ⟨zs, H2, I2, rz, q2⟩ => ⟨I2.kIn, ?_⟩
  rw [hks]
  exact run_fnkS F hr hb (hx σ) I2 r rz q2
end
/-! rules within a comprehension: what may be kept by name is that of the def -/
section
variable {X : Cx} {K : PySem.W.Frag}
theorem crK {f : Value} {r : PySem.W.Frag → List V → Hp → VK → Prop} (h : X.K = K) (c : CallR X f (r X.K)) : CallR X f (r K) := h ▸ c
theorem ixK {r : PySem.W.Frag → R2} (h : X.K = K) (c : IxR X (r X.K)) : IxR X (r K) := h ▸ c
theorem opK {f : Value → Value → Sem Value} {r : PySem.W.Frag → R2} (h : X.K = K) (c : OpR X f (r X.K)) : OpR X f (r K) := h ▸ c
def rLenSq (K : PySem.W.Frag) : List V → Hp → VK → Prop := fun xs H Q => ∃ p ys, xs = [.ref p] ∧ (SqL K H p ys ∨ SqT K H p ys) ∧ Q (.int ys.length) H
end
end My
set_option Elab.async false
set_option linter.all false
set_option maxRecDepth 100000
set_option maxHeartbeats 4000000
/-! Defs under which repr may be asked: no repr is under way. -/
namespace My
open PySem PySem.Spec PyProof.Rows L2
structure FnOkG (P : Program) (w : World) (K : PySem.W.Frag) (mg : Str → Option Value) (base : Heap) (CX : CXT) (k : Nat) (f : Addr) (fd : FuncData) (ps : List Str) (sp : Sp) : Prop where
  len : ∀ vs H Q E, sp vs H Q E → vs.length = ps.length
  run : ∀ (A : Around) (outer : List Env) (s : Shared) (H : Hp) (args : Args) (us : List Value) (vs : List V) (Q : VK) (E : XK), Room k A → A.guards = some [] → Env0 P w K mg base A outer s H → BindsTo s fd args (ps.zip us) → Vals vs us → sp vs H Q E →
    codeAny (model P w) A (.call (.ref f) args) (CR CX outer P w H s Q E) s
theorem fn_ofG {CX : CXT} {P : Program} {w : World} {K : PySem.W.Frag} {mg : Str → Option Value} {base : Heap} {k : Nat} {f : Addr} {name qual : Str} {params : Arguments} {body : List Stmt} {scope : Scope} {dV kV doc pm cdv ct oc : Value} {an od : Option Addr}
    {osl : Array (Option Value)} {N ps : List Str} {sp : Sp} (lk : K.lookup f = some ⟨oc, od, .func (PySem.W.fnOf name qual params body scope dV kV doc pm an cdv ct), osl⟩) (hcd : PySem.W.codeIn K cdv qual = true) (S : FnScope N ps scope)
    (len : ∀ vs H Q E, sp vs H Q E → vs.length = ps.length)
    (hbody : ∀ (A : Around) (outer : List Env) (s : Shared) (H : Hp) (vs : List V) (Q : VK) (E : XK), Room k (A.deeper (envOfC qual scope s.heap.objs.size f cdv)) → A.guards = some [] → sp vs H Q E →
      ∃ t, PSs (cxOf CX P w K mg base N qual scope f cdv A outer s H E) body t ∧ t { nx := fun _ H' => Q .non H', rt := Q } (start N vs) H) :
    FnOkG P w K mg base CX (k + 1) f (PySem.W.fnOf name qual params body scope dV kV doc pm an cdv ct) ps sp := by
  refine ⟨len, fun A outer s H args us vs Q E hr hg e0 hb r hsp => ?_⟩
  have hl := len _ _ _ _ hsp
  have KX : K.In s.heap := e0.mod.kin.keeps fun b o e => (e0.bs b o e).1
  have lim : s.heap.NoLimit := e0.mod.nolimit.keeps fun b o e => (e0.bs b o e).1
  refine codeAny_call_function hr.depth (KX _ _ lk) rfl S.co S.gen rfl (PySem.W.codeRec_of KX hcd) (hb _ _ _ _ ?_)
  refine wpAny_newFunctionEnv_cells S.kind (fun ⟨n, v⟩ hy => ?_) fun env he s1 x => ?_
  · rcases S.par n (List.of_mem_zip hy).1 with q | q
    · exact .inl q
    · exact .inr ⟨q, PySem.W.cellsFrom_some _ _ _ (.inl q)⟩
  subst he
  refine ⟨lim.keeps x.toInCall.keep, codeAny_func ?_⟩
  obtain ⟨t, ht, hq⟩ := hbody A outer s H vs Q E (hr.deeper _) hg hsp
  have I : Inv (cxOf CX P w K mg base N qual scope f cdv A outer s H E) [] (start N vs) H s1 := inv_start S hr.hd e0 hl r x
  refine wpAny_mono (ht.run [] s1 (start N vs) H _ I hq) (fun fl s' hs => ?_) fun e s' hs => hs
  cases fl with
  | ret u =>
    obtain ⟨v, σ', H', J, rv, q⟩ := hs
    exact ⟨v, H', J.os, J.bare, J.base, J.hok, rv, q⟩
  | next =>
    obtain ⟨σ', H', J, q⟩ := hs
    exact ⟨.non, H', J.os, J.bare, J.base, J.hok, rfl, q⟩
  | brk =>
    obtain ⟨_, _, _, q⟩ := hs
    exact False.elim q
  | cont =>
    obtain ⟨_, _, _, q⟩ := hs
    exact False.elim q
section
variable {P : Program} {w : World} {K : PySem.W.Frag} {mg : Str → Option Value} {base : Heap}
theorem _root_.L2.Fun.okG {x qual : Str} {st : Stmt} {f : Addr} {fd : FuncData} {N ps : List Str} {k : Nat} {sp : Sp} (F : Fun K x qual st f fd) (S : FnScope N ps (defScope st)) (len : ∀ vs H Q E, sp vs H Q E → vs.length = ps.length)
    (hbody : ∀ (cdv : Value) (A : Around) (outer : List Env) (s : Shared) (H : Hp) (vs : List V) (Q : VK) (E : XK), Room k (A.deeper (envOfC qual (defScope st) s.heap.objs.size f cdv)) → A.guards = some [] → sp vs H Q E →
      ∃ t, PSs (cxOf CX0 P w K mg base N qual (defScope st) f cdv A outer s H E).nox (defBody st) t ∧ t { nx := fun _ H' => Q .non H', rt := Q } (start N vs) H) : FnOkG P w K mg base CX0 (k + 1) f fd ps sp := by
  obtain ⟨oc, od, kV, doc, pm, an, cdv, ct, osl, rfl, lk, hcd⟩ := F.ex
  refine fn_ofG lk hcd S len fun A outer s H vs Q E hr hg hsp => ?_
  obtain ⟨t, h, q⟩ := hbody cdv A outer s H vs Q E hr hg hsp
  exact ⟨t, h.nox, q⟩
end
section
variable {X : Cx} {CX : CXT} {k : Nat} {f : Addr} {fd : FuncData} {ps : List Str} {sp : Sp} {dvs : List V} {ds : List Value} {E : XK} {x : Str} {p pos : Pos} {e : Expr} {es : List Expr} {t : TA}
theorem pe_callG (F : FnOkG X.prog X.w X.K X.mg X.base CX k f fd ps sp) (hr : Room k X.A) (gd : X.A.guards = some []) (hg : Gl X x) (hm : X.mg x = some (.ref f)) (hk : PySem.W.keepIn X.K (.ref f) = true) (hb : Binds X.K fd ps ds) (hd : Vals dvs ds) (hx : Passes CX X E)
    (ha : PA X (e :: es) t) (hdb : (x == ("__debug__" : Str)) = false := by decide) (he : starEach (e :: es) X.env = (false, eval e X.env) :: starEach es X.env := by rfl) (hpl : (backTo pos (starEach es X.env)).any (·.1) = false := by rfl) :
    PE X (.Call (.Name x p) (e :: es) [] pos) (tCall sp dvs E t) := by
  refine ⟨fun pins s σ H Q I h => ?_⟩
  refine wpAny_Call_Name_kw (ld_glob I hg hm ?_ hdb)
  refine PySem.W.callWith_K (h₀ := X.base) I.ok.mod.kin hk (thn (ha.run pos pins s σ H _ I h) fun us s1 ⟨vs, H1, I1, r, q⟩ => ⟨I1.kIn, ?_⟩) he hpl
  have r2 : Vals (vs ++ dvs) (us ++ ds) := r.append hd
  have hl : (us ++ ds).length = ps.length := by rw [← r2.length]; exact F.len _ _ _ _ q
  refine wpAny_call (codeAny_mono (F.run X.A X.stack s1 H1 ⟨us, []⟩ (us ++ ds) (vs ++ dvs) Q E hr gd I1.env0 (hb s1 us I1.kIn hl) r2 q) fun r s' hq => ?_)
  cases r with
  | error e => exact hx pins σ H1 s1 e s' I1 hq
  | ok fl =>
    cases fl with
    | ret u => exact I1.after hq
    | next => exact False.elim hq
    | brk => exact False.elim hq
    | cont => exact False.elim hq
/-- repr of data without dicts -/
def rRepr (K : PySem.W.Frag) : List V → Hp → VK → Prop := fun vs H Q => ∃ (v : V) (d : PyData), vs = [v] ∧ Dp K H v d ∧ d.showable = true ∧ d.hasDict = false ∧ d.depth ≤ 60 ∧ d.shown.length ≤ sizeLine ∧ (∃ a, v = .ref a) ∧ Q (.str d.shown) H
theorem cr_repr (gd : X.A.guards = some []) (hu : X.A.units + 64 < cLine) : CallR X (.builtin "repr") (rRepr X.K) := by
  intro pins s σ H vs us Q I r h
  obtain ⟨v, d, rfl, hd, h1, h2, h3, h4, ⟨a, rfl⟩, q⟩ := h
  rw [Vals.ref1 r]
  obtain ⟨as, rd⟩ := Dp.reads I d (.ref a) (.ref a) hd rfl
  exact repr_of_reads' rd h1 (fun z => by rw [h2] at z; cases z) gd (by omega) (fun b o e => e) (fun h' u tk hk => ⟨.str d.shown, H, I.kept hk, ⟨_, rfl⟩, q⟩) h4
end
/-! ### the head: nothing of repr is under way where the law is called -/
theorem law_callG {P : Program} {w : World} {K : PySem.W.Frag} {mg mb : Str → Option Value} {CX : CXT} {k : Nat} {fa a : Addr} {fd : FuncData} {x : Str} {sp : Sp} {s₁ : Shared} {vs : List Value} {ns : List Int}
    (KX : K.In s₁.heap) (hns : s₁.heap.Ns mainGlobals mg) (hb : s₁.heap.Ns builtinsNs mb) (hbb : ∀ x : Str, x ≠ "__name__" → mb x = bootBuiltins x) (hlim : s₁.heap.NoLimit) (hg : s₁.gens = #[])
    (ha : s₁.heap.get? a = some { cls := .type "list", data := .seq vs.toArray }) (hi : IntsAre vs ns) (hl : ns.length ≤ sizeLine) (hr : Room k callerA)
    (F : ∀ base : Heap, K.In base → base.Ns mainGlobals mg → FnOkG P w K mg base CX k fa fd [x] sp) (hbind : ∀ (s : Shared) (u : Value), BindsTo s fd ⟨[u], []⟩ [(x, u)])
    (hsp : ∀ H : Hp, Only H → SqL K H a (ns.map V.int) → sp [.ref a] H (fun v _ => v = .bl true) fun _ _ _ => False)
    (hCX : ∀ H e s', CX [] H s₁ (fun _ _ _ => False) e s' → False) :
    codeAny (model P w) callerA (.call (.ref fa) ⟨[.ref a], []⟩) (fun r s' => r = .ok (.ret (.bool true)) ∧ OldK s₁.heap s'.heap ∧ s'.os = s₁.os ∧ AllBare s'.gens) s₁ := by
  have rv := vals_ints hi
  have lenV := hi.length
  have core : ∀ H : Hp, Only H → SqL K H a (ns.map V.int) → HOk P w H s₁.heap → (∀ b, H b ≠ none → b = a) → (H a ≠ none → K.lookup a = none) →
      codeAny (model P w) callerA (.call (.ref fa) ⟨[.ref a], []⟩) (fun r s' => r = .ok (.ret (.bool true)) ∧ OldK s₁.heap s'.heap ∧ s'.os = s₁.os ∧ AllBare s'.gens) s₁ := by
    intro H hO hS hok hA hK
    have free : ∀ {b : Addr} {P : Prop}, (∀ u, H b = some u → b = a → P → False) → P → H b = none := fun {b P} h p => by
      cases q : H b with
      | none => rfl
      | some u => exact (h u q (hA b (by rw [q]; simp)) p).elim
    have noA : ∀ {b : Addr} {o : Obj} {es : Array DictEntry} {ep : Nat}, s₁.heap.get? b = some o → o.data = .dict es ep → H b = none := fun {b o es ep} e d => free (P := True) (fun u q e' _ => by
      subst e'
      rw [ha] at e
      cases e
      cases d) trivial
    have nsK : ∀ {b : Addr} {m : Str → Option Value}, s₁.heap.Ns b m → (hidT s₁.heap H).Ns b m := fun {b m} ⟨o, es, ep, e, d, r⟩ => ⟨o, es, ep, hidT_get e (noA e d), d, r⟩
    have hKb : K.In (hidT s₁.heap H) := fun b o e => hidT_get (KX b o e) (free (P := True) (fun u q e' _ => by
      subst e'
      rw [hK (by rw [q]; simp)] at e
      cases e) trivial)
    have hM : Mod K mg (hidT s₁.heap H) := ⟨hKb, nsK hns, ⟨mb, nsK hb, hbb⟩, let ⟨mc, h1, h2⟩ := hlim; ⟨mc, nsK h1, h2⟩⟩
    have e0 : Env0 P w K mg (hidT s₁.heap H) callerA [] s₁ H := ⟨rfl, hM, fun b o e => of_hidT e, Nat.le_of_eq (hidT_size _ _), trivial, fun b hb => absurd (show b ∈ ([] : List Addr) from hb) (by simp), hok, .of_eq hg⟩
    refine codeAny_mono ((F _ hKb (nsK hns)).run callerA [] s₁ H ⟨[.ref a], []⟩ [.ref a] [.ref a] _ _ hr rfl e0 (hbind s₁ (.ref a)) (.cons rfl .nil) (hsp H hO hS)) fun r s' h => ?_
    cases r with
    | error e => exact (hCX H e s' h).elim
    | ok fl =>
      cases fl with
      | next => exact False.elim h
      | brk => exact False.elim h
      | cont => exact False.elim h
      | ret u =>
        obtain ⟨v, H', os, bare, un, hok', r', q⟩ := h
        have q' : v = .bl true := q
        subst q'
        obtain rfl : u = Value.bool true := r'
        refine ⟨rfl, OldK.of_keep fun b o e => ?_, os, bare⟩
        rcases hO b with z | ⟨ob, xs, z⟩
        · exact un.keep b o e z (by intro z; exact absurd (show b ∈ ([] : List Addr) from z) (by simp)) (by simp)
        · have z2 := un.frzs b ob _ z
          obtain ⟨e1, _⟩ := hok b _ z
          obtain ⟨e2, _⟩ := hok' b _ z2
          rw [e] at e1
          cases e1
          exact e2
  cases hk : K.lookup a with
  | some o =>
    have e := KX a o hk
    rw [ha] at e
    cases e
    exact core (fun _ => none) (fun _ => .inl rfl) (.inr ⟨_, vs.toArray, _, hk, rfl, rfl, rfl, by rw [List.size_toArray, lenV]; exact hl, by simpa using rv⟩) (fun b u z => nomatch (show (none : Option HO) = some u from z)) (fun b z => absurd rfl z) fun z => absurd rfl z
  | none =>
    refine core (fun b => if b = a then some (.frz { cls := .type "list", data := .seq vs.toArray } (.lst (ns.map V.int))) else none) (fun b => ?_) (.inl (.inr ⟨{ cls := .type "list", data := .seq vs.toArray }, if_pos rfl⟩)) (fun b u z => ?_) (fun b z => ?_) fun _ => hk
    · by_cases hb : b = a
      · exact .inr ⟨_, _, if_pos hb⟩
      · exact .inl (if_neg hb)
    · by_cases hb : b = a
      · have z' := (if_pos hb).symm.trans z
        cases z'
        subst hb
        exact ⟨ha, by rw [List.length_map]; exact hl, vs, _, rv, ha⟩
      · have z' := (if_neg hb).symm.trans z
        cases z'
    · by_cases hb : b = a
      · exact hb
      · exact absurd (if_neg hb) z
theorem walk_ofG {l : PySem.W.OpenLaw} {n k : Nat} {q : Program} {loose : List Str} {XP : (Str → Option Value) → Heap → Prop} {YP : World → Heap → Prop} {d : DefRec} {K : Params → PySem.W.Frag} {CX : World → CXT} {sp : World → Sp} {x : Str}
    (hn : l.most = some n) (hn2 : n ≤ sizeLine) (hdf : d.params.defaults = []) (hr : Room k callerA)
    (hY : ∀ (w : World) (h : Heap), YP w h → (K w.params).In h)
    (F : ∀ (w : World) (mg : Str → Option Value) (fa : Addr) (h : Heap), (K w.params).In h → h.Ns mainGlobals mg → mg d.name = some (.ref fa) →
      ∃ fd : FuncData, (∀ (s : Shared) (u : Value), BindsTo s fd ⟨[u], []⟩ [(x, u)]) ∧
        ∀ base : Heap, (K w.params).In base → base.Ns mainGlobals mg → FnOkG l.prog w (K w.params) mg base (CX w) k fa fd [x] (sp w))
    (hsp : ∀ (w : World) (H : Hp) (a : Addr) (ns : List Int), ns.length ≤ n → Only H → SqL (K w.params) H a (ns.map V.int) → sp w [.ref a] H (fun v _ => v = .bl true) fun _ _ _ => False)
    (hCX : ∀ (w : World) (H : Hp) (s : Shared) (e : Value) (s' : Shared), CX w [] H s (fun _ _ _ => False) e s' → False) :
    PySem.W.WalkO q loose XP YP l.row.toRowW d [] (fun f vs => PySem.call f vs) := by
  refine Att.attach_call hn hdf fun w s₀ s₁ mg mb fa o pm cd doc a vs ns G Y ho hd hcd hmg hobj hints hlen hg => ?_
  have KX := hY w _ Y
  obtain ⟨fd, hb, hF⟩ := F w mg fa _ KX G.T.g hmg
  exact law_callG KX G.T.g G.T.b G.T.builtins G.T.nolimit hg hobj hints (Nat.le_trans hlen hn2) hr hF hb (fun H hO hS => hsp w H a ns hlen hO hS) fun H e s' => hCX w H s₁ e s'
end My
set_option Elab.async false
set_option linter.all false
set_option maxRecDepth 100000
set_option maxHeartbeats 4000000
/-! sorted(d) of a dict whose keys are ints. -/
namespace My
open PySem PySem.Spec PyProof.Rows L2
theorem len_dict : typeLookup (.type "dict") "__len__" = pure (some (.builtin "dict.__len__")) := by rw [typeLookup_type, builtinLookup_eq_fast]; kernel_rfl
section
variable {prog : Program} {w : World} {A : Around} {E : Value → Shared → Prop} {s : Shared} {d : Addr} {od : Obj} {es : Array DictEntry} {ep : Nat}
theorem dict_hint (hT : s.TypeIs (.ref d) "dict") {Q : Bool → Shared → Prop} (h : Q false s) : wpAny (model prog w) A (Builtin.List.listLengthHint (.ref d)) Q E s := by
  unfold Builtin.List.listLengthHint
  refine wpAny_bind (wpAny_specialOf hT len_dict ?_)
  generalize hid : ("dict.__len__" : String) = id0
  wp_delta
  rw [show splitId id0 = some ("dict", "__len__") from by subst hid; decide +kernel]
  subst hid
  refine wpAny_bind (wpAny_isInstance (T := "dict") (b := true) hT (by rw [isSubtype_type]; kernel_rfl) ?_)
  refine wpAny_ite_split (fun hab => absurd hab (by decide)) (fun _ => ?_)
  refine wpAny_ite_split (fun _ => ?_) (fun hab => absurd (by decide +kernel) hab)
  refine wpAny_bind (wpAny_typeOf hT ?_)
  exact wpAny_pure h
/-- the loop that takes the keys -/
theorem loopD {R : Result → Shared → Prop} {S I : Addr} (hh : A.handled = none) (hSI : S ≠ I) (hSd : d ≠ S) (hId : d ≠ I) (hn : es.size ≤ sizeLine) (res : Value) {h₁ : Heap} (hdd : od.data = .dict es ep)
    (hR : ∀ h' c, (∀ b o, b ≠ S → b ≠ I → h₁.get? b = some o → h'.get? b = some o) → h'.get? S = some { cls := .type "list", dict := none, data := .seq (es.map (·.key)) c, slots := #[] } → R (.ok (.ret res)) { s with heap := h' }) :
    ∀ (k i : Nat) (h : Heap) (c : Nat) (acc : Array Value), es.size - i = k → i ≤ es.size → h.IsKeyIter I d i es.size ep → h.get? d = some od → (∀ b o, b ≠ S → b ≠ I → h₁.get? b = some o → h.get? b = some o) →
      h.get? S = some { cls := .type "list", dict := none, data := .seq acc c, slots := #[] } → acc.toList = (es.toList.take i).map (·.key) →
      codeAny (model prog w) A (.builtin "list.extend.loop" ⟨[.ref S, .ref I, res], []⟩) R { s with heap := h } := by
  intro k
  induction k with
  | zero =>
    intro i h c acc hk hi hst hD hkeep hS hacc
    refine codeAny_builtin PySem.F.entry_extend_loop ?_
    rw [Around.under_plainId PySem.F.plain_extend_loop _]
    show wpAny _ A.in1 (pyNext (.ref I) >>= _) _ _ _
    refine wpAny_bind (next_key_end (s := { s with heap := h }) (A := A.in1) hh hst hD hdd rfl (by omega) fun h' he => ?_)
    have ea : acc = es.map (·.key) := by
      apply Array.toList_inj.mp
      rw [hacc, List.take_of_length_le (by rw [Array.length_toList]; omega), Array.toList_map]
    rw [ea] at hS
    exact wpAny_pure (hR h' c (fun b o h1 h2 e => he b o h2 (hkeep b o h1 h2 e)) (he S _ hSI hS))
  | succ k ih =>
    intro i h c acc hk hi hst hD hkeep hS hacc
    have hlt : i < es.size := by omega
    have hsz : acc.size = i := by rw [← Array.length_toList, hacc, List.length_map, List.length_take, Array.length_toList]; omega
    refine codeAny_builtin PySem.F.entry_extend_loop ?_
    rw [Around.under_plainId PySem.F.plain_extend_loop _]
    show wpAny _ A.in1 (pyNext (.ref I) >>= _) _ _ _
    refine wpAny_bind (next_key_item (s := { s with heap := h }) (en := es[i]) hst hD hdd rfl (Array.getElem?_eq_getElem hlt) fun h' hst' hs' => ?_)
    have hS' := hs'.extBut S _ hSI hS
    have up : ∀ b o, b ≠ S → h'.get? b = some o → (h'.update S (Obj.mapSeq (·.push es[i].key))).get? b = some o := fun b o hb e => (Heap.get?_update_other _ _ (Ne.symm hb)).trans e
    show wpAny _ A.in1 (updateSeq S (·.push es[i].key) >>= _) _ _ _
    refine wpAny_bind ?_
    refine wpAny_updateSeq hS' rfl (wpAny_pure ⟨plainId_quiet PySem.F.plain_extend_loop _, ih (i + 1) _ _ (acc.push es[i].key) (by omega) hlt (hst'.at fun o e => up _ o hSI.symm e) (up d _ hSd (hs'.extBut d _ hId hD))
      (fun b o h1 h2 e => up b o h1 (hs'.extBut b _ h2 (hkeep b o h1 h2 e))) (Heap.get?_update_self _ hS' rfl) ?_⟩) (by rw [hsz]; omega) (by show (acc.push es[i].key).size ≤ sizeLine + 1; rw [Array.size_push, hsz]; omega)
    rw [Array.toList_push, hacc, List.take_add_one, Array.getElem?_toList, Array.getElem?_eq_getElem hlt, List.map_append]
    rfl
theorem extD {R : Result → Shared → Prop} {P2 : Program} {κ : Type} [DecidableEq κ] {knd : PySem.KeyKind prog w κ} {kvs : List (κ × Value)} (hh : A.handled = none) (hsys : (d == sysModules) = false) (hm : s.heap.DictAt knd d kvs ep) (ho : s.heap.get? d = some od) (hdd : od.data = .dict es ep) (hk : kvs.length = es.size) (S : Addr) (hSd : d ≠ S) (res : Value) (c₀ : Nat) (hS : s.heap.get? S = some { cls := .type "list", data := .seq #[] c₀ })
    (hR : ∀ h' c, (∀ b o, b ≠ S → s.heap.get? b = some o → h'.get? b = some o) → h'.get? S = some { cls := .type "list", dict := none, data := .seq (es.map (·.key)) c, slots := #[] } → R (.ok (.ret res)) { s with heap := h' }) (hn : es.size ≤ sizeLine) :
    wpAny (model prog w) A.in1 (Builtin.List.listExtendWith (.ref S) (.ref d) res)
      (fun fin s' => match fin with | .done f => R (.ok f) s' | .again c' => c'.quiet = true ∧ codeAny (model prog w) A c' R s') (fun e s' => R (.error e) s') s := by
  have hSI : S < s.heap.objs.size := Heap.lt_size hS
  have hdI : d < s.heap.objs.size := Heap.lt_size ho
  have hT : s.TypeIs (.ref d) "dict" := hm.dictOf.typeIs
  have key : ∀ (h : Heap) (c₁ : Nat), (∀ b o, b ≠ S → (s.heap.push { cls := .type "dict_keyiterator", data := .fields #[.ref d, .int 0 0, .int kvs.length 0, .int ep 0] }).get? b = some o → h.get? b = some o) →
      h.get? S = some { cls := .type "list", data := .seq #[] c₁ } → codeAny (model prog w) A (.builtin "list.extend.loop" ⟨[.ref S, .ref s.heap.objs.size, res], []⟩) R { s with heap := h } := by
    intro h c₁ hk' hS₁
    have hI := hk' s.heap.objs.size _ (Nat.ne_of_gt hSI) (Heap.get?_push_size _ rfl)
    rw [hk] at hI
    exact loopD (s := s) (h₁ := s.heap) hh (Nat.ne_of_lt hSI) hSd (Nat.ne_of_lt hdI) hn res hdd (fun h' c hk2 hS2 => hR h' c (fun b o hb e => hk2 b o hb (Nat.ne_of_lt (Heap.lt_size e)) e) hS2)
      es.size 0 h c₁ #[] (Nat.sub_zero _) (Nat.zero_le _) ⟨_, hI, rfl, rfl⟩ (hk' d _ hSd (Heap.get?_push_of_some _ ho)) (fun b o hb _ e => hk' b o hb (Heap.get?_push_of_some _ e)) hS₁ rfl
  unfold Builtin.List.listExtendWith
  refine wpAny_bind (wpAny_typeOf (T := "dict") hT ?_)
  have h1 : Builtin.List.listSameRef (.ref S) (.ref d) = false := by simp [Builtin.List.listSameRef, Ne.symm hSd]
  have h2 : (Value.type "dict" == Value.type "list") = false := by decide
  have h3 : (Value.type "dict" == Value.type "tuple") = false := by decide
  simp only [h1, h2, h3, Bool.or_false, Bool.false_eq_true, if_false]
  refine wpAny_bind (wpAny_pyIter_dict hsys hm ?_)
  have hS₁ := Heap.get?_push_of_some { cls := .type "dict_keyiterator", data := .fields #[.ref d, .int 0 0, .int kvs.length 0, .int ep 0] } hS
  refine wpAny_bind (wpAny_holding (dict_hint (let ⟨o, ho, hc⟩ := hT; ⟨o, Heap.get?_push_of_some _ ho, hc⟩) ?_))
  refine wpAny_ite_split (fun _ => ?_) (fun _ => wpAny_pure ⟨plainId_quiet PySem.F.plain_extend_loop _, key _ c₀ (fun b o _ e => e) hS₁⟩)
  refine wpAny_bind (wpAny_rule ?_)
  refine wpAny_bind ?_
  show wpAny _ _ (updateSeq S (·.push .none) >>= fun _ => updateSeq S (·.pop)) _ _ _
  refine wpAny_bind (wpAny_updateSeq hS₁ rfl ?_)
  have hS₂ := Heap.get?_update_self (Obj.mapSeq (·.push Value.none)) hS₁ rfl
  refine wpAny_updateSeq (hz := by seq_fits) hS₂ rfl ?_
  have hS₃ := Heap.get?_update_self (Obj.mapSeq (·.pop)) hS₂ rfl
  refine wpAny_pure ⟨plainId_quiet PySem.F.plain_extend_loop _, key _ _ (fun b o hb e => ?_) hS₃⟩
  exact (Heap.get?_update_other _ _ (Ne.symm hb)).trans ((Heap.get?_update_other _ _ (Ne.symm hb)).trans e)
theorem collectD {R : List Value → Shared → Prop} {κ : Type} [DecidableEq κ] {knd : PySem.KeyKind prog w κ} {kvs : List (κ × Value)} (hh : A.handled = none) (hsys : (d == sysModules) = false) (hm : s.heap.DictAt knd d kvs ep) (ho : s.heap.get? d = some od) (hdd : od.data = .dict es ep) (hk : kvs.length = es.size) (hn : es.size ≤ sizeLine)
    (h : ∀ (h' : Heap), (∀ b o, s.heap.get? b = some o → h'.get? b = some o) → s.heap.objs.size < h'.objs.size → R (es.toList.map (·.key)) { s with heap := h' }) :
    wpAny (model prog w) A (collect (.ref d)) R E s := by
  have hd : d < s.heap.objs.size := Heap.lt_size ho
  unfold collect
  refine wpAny_bind (wpAny_runValue (codeAny_builtin entry_proto_collect' ?_))
  rw [Around.under_plainId PySem.F.plain_proto_collect _]
  show wpAny _ A.in1 (newList [] >>= fun l => again (.builtin "list.__iadd__" ⟨[l, .ref d], []⟩)) _ _ s
  refine wpAny_bind (wpAny_newObj_type ?_)
  refine wpAny_pure ⟨plainId_quiet PySem.F.plain_list_iadd _, codeAny_builtin entry_list_iadd' ?_⟩
  rw [Around.under_plainId PySem.F.plain_list_iadd _]
  have hS₁ : (s.heap.push { cls := .type "list", data := .seq ([] : List Value).toArray }).get? s.heap.objs.size = some { cls := .type "list", data := .seq #[] } := Heap.get?_push_size _ rfl
  show wpAny _ A.in1 (Builtin.List.listExtendWith (.ref s.heap.objs.size) (.ref d) (.ref s.heap.objs.size)) _ _ _
  have key := extD (prog := prog) (w := w) (A := A) (P2 := prog) (s := { s with heap := s.heap.push { cls := .type "list", data := .seq ([] : List Value).toArray } }) (es := es) (ep := ep) (od := od) (knd := knd) (kvs := kvs)
    (R := fun (q : Result) (s' : Shared) => ∃ (h' : Heap) (c' : Nat), q = .ok (.ret (.ref s.heap.objs.size)) ∧ s' = { s with heap := h' } ∧
      (∀ b o, s.heap.get? b = some o → h'.get? b = some o) ∧ h'.get? s.heap.objs.size = some { cls := .type "list", dict := none, data := .seq (es.map (·.key)) c', slots := #[] })
    hh hsys (hm.push _) (Heap.get?_push_of_some _ ho) hdd hk s.heap.objs.size (Nat.ne_of_lt hd) (.ref s.heap.objs.size) 0 hS₁
    (fun h' c' hk2 hS' => ⟨h', c', rfl, rfl, fun b o e => hk2 b o (Nat.ne_of_lt (Heap.lt_size e)) (Heap.get?_push_of_some _ e), hS'⟩) hn
  have fin : ∀ (h' : Heap) (c' : Nat), (∀ b o, s.heap.get? b = some o → h'.get? b = some o) → h'.get? s.heap.objs.size = some { cls := .type "list", dict := none, data := .seq (es.map (·.key)) c', slots := #[] } → R (es.map (·.key)).toList { s with heap := h' } := fun h' c' hk2 hS' => by
    rw [Array.toList_map]
    exact h h' hk2 (Heap.lt_size hS')
  refine wpAny_mono key (fun fn s' x => ?_) fun e s' x => ?_
  · cases fn with
    | done f =>
      obtain ⟨h', c', e, rfl, hk2, hS'⟩ := x
      cases e
      show wpAny _ A (load s.heap.objs.size >>= _) _ _ _
      refine wpAny_bind (wpAny_load hS' ?_)
      exact wpAny_pure (fin h' c' hk2 hS')
    | again c₁ =>
      refine ⟨x.1, codeAny_mono x.2 fun q s₂ y => ?_⟩
      obtain ⟨h', c', rfl, rfl, hk2, hS'⟩ := y
      show wpAny _ A (load s.heap.objs.size >>= _) _ _ _
      refine wpAny_bind (wpAny_load hS' ?_)
      exact wpAny_pure (fin h' c' hk2 hS')
  · obtain ⟨_, _, e', _⟩ := x
    cases e'
end
section
variable {X : Cx}
theorem keys_of {P : Program} {w : World} : ∀ {es : List DictEntry} {kvs : List (Key × Value)}, Pairs (mixKind P w) es kvs → es.length = kvs.length ∧ ∀ ns : List Int, kvs.map (·.1) = ns.map Sum.inl → IntsAre (es.map (·.key)) ns
  | _, _, .nil => ⟨rfl, fun ns h => by
    cases ns with
    | nil => exact .nil
    | cons n ns => cases h⟩
  | _, _, .cons hk hv hp => by
    obtain ⟨h1, h2⟩ := keys_of hp
    refine ⟨by simp [h1], fun ns h => ?_⟩
    cases ns with
    | nil => cases h
    | cons n ns =>
      injection h with e1 e2
      dsimp only at e1
      rcases keyIs_shape hk with ⟨i, t, h3, h4⟩ | ⟨x, t, h3, h4⟩
      · rw [h3] at e1
        cases e1
        rw [List.map_cons, h4]
        exact .cons _ _ (h2 ns e2)
      · rw [h3] at e1
        cases e1
/-- sorted(d), the keys ints -/
def rSortedD : List V → Hp → VK → Prop := fun vs H Q => ∃ (a : Addr) (kvs : List (Key × V)) (ns : List Int), vs = [V.ref a] ∧ H a = some (.dK kvs) ∧ kvs.map (·.1) = ns.map Sum.inl ∧ ∀ ns' : List Int, ns'.Perm ns → ns'.Pairwise (· ≤ ·) → New (.lst (ns'.map V.int)) H Q
theorem cr_sortedD (hc : X.calm = true) : CallR X (.builtin "sorted") rSortedD := by
  intro pins s σ H vs us Q I r h
  obtain ⟨a, kvs, ns, rfl, ha, hk, q⟩ := h
  rw [Vals.ref1 r]
  obtain ⟨z, hsys, vs, rel, dd⟩ := dk_of I.hok ha
  obtain ⟨ep, dat⟩ := dd.dictAt
  obtain ⟨od, es, ho, hex, hdat, hks, hp, hnd⟩ := id dat
  obtain ⟨l1, hi⟩ := keys_of hp
  have ek : vs.map (·.1) = kvs.map (·.1) := by
    have : ∀ {kvs : List (Key × V)} {vs : List (Key × Value)}, KV kvs vs → vs.map (·.1) = kvs.map (·.1) := fun rel => by
      induction rel with
      | nil => rfl
      | cons h _ ih => rw [List.map_cons, List.map_cons, ih, h.1]
    exact this rel
  have hI := hi ns (ek.trans hk)
  have lk : vs.length = es.size := by rw [← l1, Array.length_toList]
  have lz : es.size ≤ sizeLine := by
    rw [← lk, ← List.length_map (f := (·.1)), ek, List.length_map]
    exact z
  refine Calls.call_function_entry kind_sorted plain_sorted entry_sorted (args_sorted1 _) ?_
  unfold Builtin.«sorted»
  refine wpAny_bind (m := checkCount "sorted" 1 1 _) (wpAny_pure ?_)
  refine wpAny_bind (collectD (A := X.A.in1) (I.ok.hd hc) hsys dat ho hdat lk lz fun h' hk' hlt => ?_)
  refine wpAny_bind (wpAny_newList ?_ (by rw [List.length_map, Array.length_toList]; exact lz))
  have hoL : (h'.push (seqObj "list" (es.toList.map (·.key)).toArray 0)).get? h'.objs.size = some (seqObj "list" (es.toList.map (·.key)).toArray 0) := Heap.get?_push_size _ rfl
  refine wpAny_bind (wpAny_holding (wpAny_call_entry PyProof.Rows.slot_list_sort ⟨_, hoL, rfl⟩ PyProof.Rows.entry_list_sort
    (SrtO.list_sort_ord SrtO.swo_int hoL (by rw [List.length_map, Array.length_toList]; exact lz) (fun h2 => SrtO.ints_sortable hI h2) fun out h1 h2 => ⟨_, rfl, ?_⟩) (PyProof.Rows.args_list_sort _)))
  obtain ⟨k1, k2, k3⟩ := SrtO.ints_out hI h1 h2
  obtain ⟨c, hc'⟩ := sortedHeap_at (vs := es.toList.map (·.key)) (out := out.toArray) hoL
  have hlen : ((out.map SrtO.iv).map V.int).length ≤ sizeLine := by
    rw [List.length_map, k2.length_eq, ← hI.length, List.length_map, Array.length_toList]
    exact lz
  have hle : s.heap.objs.size ≤ h'.objs.size := Nat.le_of_lt hlt
  have hn : H h'.objs.size = none := I.hok.fresh hle
  refine wpAny_pure ⟨_, rfl, .ref _, upd H h'.objs.size (.lst ((out.map SrtO.iv).map V.int)), I.laid (t' := s.toks) (fun b o e => ?_) hle ⟨hlen, out, c, vals_of_ints k1, hc'⟩, rfl, (q _ k2 k3).go _ hn⟩
  have e1 := hk' b o e
  have hb := Heap.lt_size e1
  rw [sortedHeap_old (Nat.ne_of_lt hb) (by rw [Heap.size_push]; exact Nat.lt_succ_of_lt hb)]
  exact Heap.get?_push_of_some _ e1
end
end My
set_option Elab.async false
set_option linter.all false
set_option maxRecDepth 100000
set_option maxHeartbeats 4000000
/-! dicts with int keys, as a list of keys and a function. -/
namespace My
open PySem L2
def kvsOf (ns : List Int) (g : Int → V) : List (Key × V) := ns.map fun n => (Sum.inl n, g n)
theorem kvs_keys (ns : List Int) (g : Int → V) : (kvsOf ns g).map (·.1) = ns.map Sum.inl := by
  unfold kvsOf
  rw [List.map_map]
  rfl
theorem kvs_len (ns : List Int) (g : Int → V) : (kvsOf ns g).length = ns.length := by
  unfold kvsOf
  rw [List.length_map]
theorem kvs_congr {ns : List Int} {g g' : Int → V} (h : ∀ n ∈ ns, g n = g' n) : kvsOf ns g = kvsOf ns g' := by
  unfold kvsOf
  exact List.map_congr_left fun n hn => by rw [h n hn]
theorem valV_kvs (g : Int → V) (k : Int) : ∀ ns : List Int, valV (kvsOf ns g) (Sum.inl k) = if k ∈ ns then some (g k) else none
  | [] => rfl
  | n :: ns => by
    show valV ((Sum.inl n, g n) :: kvsOf ns g) (Sum.inl k) = _
    by_cases e : n = k
    · subst e
      rw [valV_pos rfl, if_pos List.mem_cons_self]
    · rw [valV_neg (fun z => e (Sum.inl.inj z)), valV_kvs g k ns]
      by_cases m : k ∈ ns
      · rw [if_pos m, if_pos (List.mem_cons_of_mem _ m)]
      · rw [if_neg m, if_neg (fun z => by
          rcases List.mem_cons.mp z with z | z
          · exact e z.symm
          · exact m z)]
theorem any_kvs (g : Int → V) (k : Int) (ns : List Int) : ((kvsOf ns g).any fun kv => decide (kv.1 = Sum.inl k)) = decide (k ∈ ns) := by
  unfold kvsOf
  rw [List.any_map, Bool.eq_iff_iff, List.any_eq_true]
  constructor
  · rintro ⟨n, hn, e⟩
    have : n = k := by simpa using e
    subst this
    exact decide_eq_true hn
  · intro h
    exact ⟨k, of_decide_eq_true h, by simp⟩
theorem putK_kvs (g : Int → V) (k : Int) (v : V) (ns : List Int) : putK (kvsOf ns g) (Sum.inl k) v = kvsOf (if k ∈ ns then ns else ns ++ [k]) (fun n => if n = k then v else g n) := by
  unfold putK
  rw [any_kvs]
  by_cases m : k ∈ ns
  · rw [decide_eq_true m, if_pos rfl, if_pos m]
    unfold kvsOf
    rw [List.map_map]
    refine List.map_congr_left fun n hn => ?_
    show (if (Sum.inl n : Key) = Sum.inl k then ((Sum.inl n : Key), v) else (Sum.inl n, g n)) = (Sum.inl n, if n = k then v else g n)
    by_cases e : n = k
    · rw [if_pos (by rw [e]), if_pos e]
    · rw [if_neg (fun z => e (Sum.inl.inj z)), if_neg e]
  · rw [decide_eq_false m, if_neg Bool.false_ne_true, if_neg m]
    unfold kvsOf
    rw [List.map_append]
    congr 1
    · refine List.map_congr_left fun n hn => ?_
      have z : ¬ n = k := fun z => m (by rw [← z]; exact hn)
      show (Sum.inl n, g n) = (Sum.inl n, if n = k then v else g n)
      rw [if_neg z]
    · show [(Sum.inl k, v)] = [(Sum.inl k, if k = k then v else g k)]
      rw [if_pos rfl]
theorem dropK_kvs (g : Int → V) (k : Int) (ns : List Int) : dropK (kvsOf ns g) (Sum.inl k) = kvsOf (ns.filter fun n => decide (n ≠ k)) g := by
  unfold dropK kvsOf
  rw [List.filter_map]
  congr 1
  refine List.filter_congr fun n hn => ?_
  show decide ((Sum.inl n : Key) ≠ Sum.inl k) = decide (n ≠ k)
  rw [decide_eq_decide]
  exact ⟨fun h e => h (by rw [e]), fun h e => h (Sum.inl.inj e)⟩
theorem put_nodup {ns : List Int} (h : ns.Nodup) (k : Int) : (if k ∈ ns then ns else ns ++ [k]).Nodup := by
  split
  · exact h
  · rename_i m
    rw [List.nodup_append]
    exact ⟨h, by simp, fun a ha b hb => by
      have : b = k := by simpa using hb
      subst this
      exact fun e => m (e ▸ ha)⟩
theorem mem_put {ns : List Int} {k r : Int} : r ∈ (if k ∈ ns then ns else ns ++ [k]) ↔ r ∈ ns ∨ r = k := by
  split
  · rename_i m
    exact ⟨.inl, fun h => h.elim id fun e => e ▸ m⟩
  · simp
/-- two ascending lists without doubles of the same members are one -/
theorem asc_unique : ∀ {l m : List Int}, l.Pairwise (· < ·) → m.Pairwise (· < ·) → (∀ r, r ∈ l ↔ r ∈ m) → l = m
  | [], [], _, _, _ => rfl
  | [], y :: m, _, _, h => by
    have := (h y).mpr List.mem_cons_self
    cases this
  | x :: l, [], _, _, h => by
    have := (h x).mp List.mem_cons_self
    cases this
  | x :: l, y :: m, h1, h2, h => by
    obtain ⟨a1, a2⟩ := List.pairwise_cons.mp h1
    obtain ⟨b1, b2⟩ := List.pairwise_cons.mp h2
    have e : x = y := by
      rcases List.mem_cons.mp ((h x).mp List.mem_cons_self) with z | z
      · exact z
      · rcases List.mem_cons.mp ((h y).mpr List.mem_cons_self) with z' | z'
        · exact z'.symm
        · have := b1 x z
          have := a1 y z'
          omega
    subst e
    rw [asc_unique a2 b2 fun r => ?_]
    constructor
    · intro hr
      rcases List.mem_cons.mp ((h r).mp (List.mem_cons_of_mem _ hr)) with z | z
      · have := a1 r hr
        omega
      · exact z
    · intro hr
      rcases List.mem_cons.mp ((h r).mpr (List.mem_cons_of_mem _ hr)) with z | z
      · have := b1 r hr
        omega
      · exact z
theorem asc_of {ns ns' : List Int} (hp : ns'.Perm ns) (hs : ns'.Pairwise (· ≤ ·)) (hn : ns.Nodup) : ns'.Pairwise (· < ·) := by
  have hn' : ns'.Nodup := hp.nodup_iff.mpr hn
  exact (List.Pairwise.and hs hn').imp fun ⟨h1, h2⟩ => by omega
end My
namespace My
open PySem L2
/-- a dict comprehension over any walk -/
theorem dc_it {J : It} {n : Nat} {G : Hp → Prop} {Y : Nat → Hp → V → Hp → Prop} (w : Walk J n G Y) {g : TG} {tt : TT} {tk tv : TE} {vs : List Nat} {σ : L2.St} {H1 : Hp} {D : Addr} {Qd : Hp → Prop} (Pv : Nat → Hp → Prop) (h0 : Pv 0 (upd H1 D (.dK []))) (hG : ∀ i H, i ≤ n → Pv i H → G H)
    (hs : ∀ i x H H', i < n → Pv i H → Y i H x H' → g x (wipe σ vs) H' fun σ2 H2 => wipe σ2 vs = wipe σ vs ∧ tt σ2 H2 fun b H3 =>
      if b = true then tk σ2 H3 fun y H4 => tv σ2 H4 fun z H5 => ∃ kvs k, y = kV k ∧ H5 D = some (.dK kvs) ∧ kvs.length < sizeLine ∧ Pv (i + 1) (upd H5 D (.dK (putK kvs k z))) else Pv (i + 1) H3) (hd : ∀ H, Pv n H → Qd H) :
    ∃ W : Nat → Nat → Hp → Prop, (∃ m, W 0 m (upd H1 D (.dK []))) ∧ ∀ i m H, W i m H →
      (J.stop i H ∧ Qd H) ∨ (J.go i H ∧ ∃ Nx : Hp → Prop, (∀ H', Nx H' → ∃ m', m' < m ∧ W (i + 1) m' H') ∧ ∀ x H', J.yld i H x H' → g x (wipe σ vs) H' fun σ2 H2 => wipe σ2 vs = wipe σ vs ∧ tt σ2 H2 fun b H3 =>
        if b = true then tk σ2 H3 fun y H4 => tv σ2 H4 fun z H5 => ∃ kvs k, y = kV k ∧ H5 D = some (.dK kvs) ∧ kvs.length < sizeLine ∧ Nx (upd H5 D (.dK (putK kvs k z))) else Nx H3) := by
  refine ⟨fun i m H => m = n - i ∧ i ≤ n ∧ Pv i H, ⟨n, by simp, Nat.zero_le _, h0⟩, ?_⟩
  rintro i m H ⟨rfl, hi, p⟩
  have q := hG i H hi p
  by_cases hlt : i < n
  · exact .inr ⟨w.goes i H hlt q, Pv (i + 1), fun H' p' => ⟨n - (i + 1), by omega, rfl, hlt, p'⟩, fun x H' y => hs i x H H' hlt p (w.yields i H x H' hlt q y)⟩
  · have e : i = n := by omega
    subst e
    exact .inl ⟨w.stops H q, hd H p⟩
end My
namespace My
open PySem PySem.Spec PyProof.Rows L2
section
variable {X : Cx}
/-- x = {k: v for ..} -/
theorem ps_setDc {i : Nat} {y : Str} {py : Pos} {kx vx tg iter : Expr} {ifs : List Expr} {scope : Scope} {own : List (Str × Nat)} {pos spos : Pos} {wi : TI} {g : TG} {tt : TT} {tk tv : TE} (hc : X.calm = true) (hN : X.N.Nodup) (hy : X.N[i]? = some y) (hyl : X.env.scope.names.lookup y = some .local)
    (hsw : swapsWith (.DictComp kx vx [⟨tg, iter, ifs, 0⟩] scope pos) (some (.Name y py)) spos.line X.env = pure true) (hi : PI X tg iter wi) (ok : BlkOk X.N X.env.scope scope own)
    (hg : ∀ (s : Shared) (H : Hp) (C : Addr) (cl : List (Str × Addr)) (fp : List Addr), PG (X.blk s H scope (compEnvC scope cl C X.env) fp) tg g) (ht : ∀ (s : Shared) (H : Hp) (C : Addr) (cl : List (Str × Addr)) (fp : List Addr), PTs (X.blk s H scope (compEnvC scope cl C X.env) fp) ifs tt)
    (hk : ∀ (s : Shared) (H : Hp) (C : Addr) (cl : List (Str × Addr)) (fp : List Addr), PE (X.blk s H scope (compEnvC scope cl C X.env) fp) kx tk)
    (he : ∀ (s : Shared) (H : Hp) (C : Addr) (cl : List (Str × Addr)) (fp : List Addr), PE (X.blk s H scope (compEnvC scope cl C X.env) fp) vx tv) (hs : ∀ x, foldedSetIterable iter X.env x = pure x := by intro _; rfl) :
    PS X (.Assign [.Name y py] (.DictComp kx vx [⟨tg, iter, ifs, 0⟩] scope pos) spos) (tAsg (tDc wi g tt tk tv (own.map (·.2))) (gName i)) := by
  refine ⟨fun pins s σ H D I h => ?_⟩
  rw [exec_Assign_Name_used _ _ _ _ hsw]
  refine wpAny_bind (wpAny_standAt (wpAny_bind ?_))
  show wpAny _ X.A (do let _ ← comprehension (.DictComp kx vx [⟨tg, iter, ifs, 0⟩] scope pos) scope X.env (firstIterPos [⟨tg, iter, ifs, 0⟩] pos) newDict false (eval iter X.env) (some (assign (.Name y py) X.env))) _ _ s
  have h : tDc wi g tt tk tv (own.map (·.2)) σ H (fun x H1 => gName i x σ H1 D.nx) := h
  refine wpAny_bind (thn (dc_core (Qf := fun _ s' => SP X pins D .next s') hc hN I hi ok hg ht hk he hs h fun L C s' m H' I' q hn f => ?_) fun _ s' hq => wpAny_pure (wpAny_pure hq))
  show wpAny _ _ (assign (.Name y py) X.env (.ref L)) _ _ _
  refine wpAny_assign_Name (store_ok2 (v := V.ref L) I' hN hy (.inl hyl) rfl (fun s2 I2 ⟨a, sb, ha⟩ => ?_) (.inr hyl))
  obtain ⟨f0, f1, f2, f3, f4, f5⟩ := f
  have haC : C ≠ a := by
    rcases ha with z | z
    · rw [z]; exact f1
    · exact fun e => f4 y a z e.symm
  refine ⟨m, hn.sameBut sb haC, fun h3 sb3 => ?_⟩
  exact ⟨_, H', I2.turned (t' := s2.toks) (fun b o hb e => (sb3.2 b hb).trans e) f0 f1 f3 f4 f5, q⟩
theorem sw_trueD {kx vx : Expr} {gs : List Comprehension} {scope : Scope} {pos py : Pos} {y : Str} {l : Nat} {env : Env} (hk : env.scope.kind = .function) (hy : env.scope.names.lookup y = some .local) (hl : (py.line == pos.line) = true)
    (ha : (scope.names.any fun (n, k) => n == y && (k == .local || k == .cell)) = false) : swapsWith (.DictComp kx vx gs scope pos) (some (.Name y py)) l env = pure true := by
  have ky : env.kindOf y = some .local := hy
  have hb : env.blockKind = .function := by unfold Env.blockKind; rw [hk]; rfl
  unfold swapsWith
  simp only [hb, ky, ha, Expr.pos, hl]
  rfl
end
end My
namespace My
open PySem L2
theorem cut_mid (xs : List V) {n m : Nat} (h : m ≤ xs.length) : cutV xs (some (n : Int)) (some (m : Int)) = (xs.drop n).take (m - n) := by
  unfold cutV
  rw [HT.sIx_nat, HT.sIx_nat, Nat.min_eq_left h]
  by_cases h2 : n ≤ xs.length
  · rw [Nat.min_eq_left h2]
  · rw [Nat.min_eq_right (by omega), List.drop_eq_nil_of_le (Nat.le_refl _), List.drop_eq_nil_of_le (by omega), List.take_nil, List.take_nil]
theorem nodup_len : ∀ {l m : List Int}, l.Nodup → (∀ r ∈ l, r ∈ m) → l.length ≤ m.length
  | [], _, _, _ => Nat.zero_le _
  | x :: l, m, h, s => by
    obtain ⟨h1, h2⟩ := List.nodup_cons.mp h
    have hx := s x List.mem_cons_self
    have := nodup_len (m := m.erase x) h2 fun r hr => (List.mem_erase_of_ne (fun e : r = x => h1 (by rw [← e]; exact hr))).mpr (s r (List.mem_cons_of_mem _ hr))
    rw [List.length_erase_of_mem hx] at this
    have : 0 < m.length := List.length_pos_of_mem hx
    rw [List.length_cons]
    omega
/-- the keys of a dict of marks -/
structure FdOk (f : Int → Bool) (dom ks : List Int) : Prop where
  nd : ks.Nodup
  is : ∀ r, r ∈ ks ↔ f r = true
  dm : ∀ r ∈ ks, r ∈ dom
theorem FdOk.len {f : Int → Bool} {dom ks : List Int} (h : FdOk f dom ks) : ks.length ≤ dom.length := nodup_len h.nd h.dm
theorem FdOk.congr {f g : Int → Bool} {dom ks : List Int} (h : FdOk f dom ks) (e : ∀ r, f r = g r) : FdOk g dom ks := ⟨h.nd, fun r => by rw [h.is, e], h.dm⟩
theorem FdOk.put {f : Int → Bool} {dom ks : List Int} (h : FdOk f dom ks) {k : Int} (hk : k ∈ dom) : FdOk (fun r => if r = k then true else f r) dom (if k ∈ ks then ks else ks ++ [k]) :=
  ⟨put_nodup h.nd k, fun r => by
    rw [mem_put, h.is]
    by_cases e : r = k
    · simp [e]
    · simp [e], fun r hr => by
    rcases mem_put.mp hr with z | z
    · exact h.dm r z
    · exact z ▸ hk⟩
theorem FdOk.drop {f : Int → Bool} {dom ks : List Int} (h : FdOk f dom ks) (k : Int) : FdOk (fun r => if r = k then false else f r) dom (ks.filter fun n => decide (n ≠ k)) :=
  ⟨h.nd.sublist List.filter_sublist, fun r => by
    rw [List.mem_filter, h.is]
    by_cases e : r = k
    · simp [e]
    · simp [e], fun r hr => h.dm r (List.mem_filter.mp hr).1⟩
abbrev tt : Int → V := fun _ => .bl true
theorem putK_tt (k : Int) (ks : List Int) : putK (kvsOf ks tt) (Sum.inl k) (.bl true) = kvsOf (if k ∈ ks then ks else ks ++ [k]) tt := by
  rw [putK_kvs]
  exact kvs_congr fun n _ => by
    show (if n = k then V.bl true else .bl true) = .bl true
    split <;> rfl
theorem kvs_snoc (ks : List Int) (g : Int → V) (k : Int) (h : k ∉ ks) : putK (kvsOf ks g) (Sum.inl k) (g k) = kvsOf (ks ++ [k]) g := by
  rw [putK_kvs, if_neg h]
  exact kvs_congr fun n _ => by
    show (if n = k then g k else g n) = g n
    split
    · rename_i e
      rw [e]
    · rfl
theorem nodup_inj {ns : List Int} (h : ns.Nodup) {i j : Nat} (hi : i < ns.length) (hj : j < ns.length) (e : ns[i] = ns[j]) : i = j := by
  have hp := List.pairwise_iff_getElem.mp h
  rcases Nat.lt_trichotomy i j with z | z | z
  · exact absurd e (hp i j hi hj z)
  · exact z
  · exact absurd e.symm (hp j i hj hi z)
theorem nodup_take {ns : List Int} (h : ns.Nodup) (i : Nat) {x : Int} (hx : ns[i]? = some x) : x ∉ ns.take i := fun m => by
  obtain ⟨j, hj, e⟩ := List.getElem_of_mem m
  rw [List.length_take] at hj
  rw [List.getElem_take] at e
  obtain ⟨hi, e2⟩ := List.getElem?_eq_some_iff.mp hx
  have := nodup_inj h (i := j) (j := i) (by omega) hi (by rw [e, e2])
  omega
theorem idx_of {ns : List Int} (h : ns.Nodup) {i : Nat} {x : Int} (hx : ns[i]? = some x) : ns.idxOf x = i := by
  obtain ⟨hi, e2⟩ := List.getElem?_eq_some_iff.mp hx
  have hm : x ∈ ns := List.mem_of_getElem? hx
  have hlt := List.idxOf_lt_length_of_mem hm
  exact nodup_inj h (i := ns.idxOf x) (j := i) hlt hi (by rw [List.getElem_idxOf, e2])
theorem take_snoc {α : Type} {ns : List α} {i : Nat} {x : α} (hx : ns[i]? = some x) : ns.take (i + 1) = ns.take i ++ [x] := by
  rw [List.take_add_one, hx]
  rfl
theorem foldl_take {α β : Type} {f : β → α → β} {b : β} {cs : List α} {i : Nat} {c : α} (h : cs[i]? = some c) : (cs.take (i + 1)).foldl f b = f ((cs.take i).foldl f b) c := by
  rw [take_snoc h, List.foldl_append]
  rfl
theorem peBMK {X : Cx} {K : PySem.W.Frag} (h : X.K = K) {e : Expr} {T : String} {r : V → List V → Hp → VK → Prop} {to : TE} {t : TA} (p : PE X e (tBM X.K T r to t)) : PE X e (tBM K T r to t) := h ▸ p
theorem peBM0K {X : Cx} {K : PySem.W.Frag} (h : X.K = K) {e : Expr} {T : String} {r : V → List V → Hp → VK → Prop} {to : TE} (p : PE X e (tBM0 X.K T r to)) : PE X e (tBM0 K T r to) := h ▸ p
section
variable {X : Cx} {e : Expr} {te : L2.St → Hp → (Int → Int → Hp → Prop) → Prop}
def tCutR (te : L2.St → Hp → (Int → Int → Hp → Prop) → Prop) : L2.St → Hp → (Int → Int → Hp → Prop) → Prop := fun σ H Q => ∃ M : Int → Int → Hp → Prop, te σ H M ∧ ∀ a b H', M a b H' → Q a b H'
theorem prg_cut (h : PRg X e te) : PRg X e (tCutR te) := fun pins s σ H Q I ⟨M, hm, hq⟩ => thn (h pins s σ H M I hm) fun x s1 ⟨r, a, b, t, u, v, H', e1, e2, I1, q⟩ => ⟨r, a, b, t, u, v, H', e1, e2, I1, hq a b H' q⟩
def tLstRgG (te : L2.St → Hp → (Int → Int → Hp → Prop) → Prop) : TE := fun σ H Q => te σ H fun a b H1 => RgOk a b ∧ New (.lst (rgV a b)) H1 Q
/-- list(range(..)) -/
theorem pe_listRgG {p pos : Pos} (hc : X.calm = true) (hg : Gl X "list") (hm : X.mg "list" = none) (he : PRg X e te) (na : PySem.starEach [e] X.env = (false, PySem.eval e X.env) :: PySem.starEach [] X.env := by rfl) : PE X (.Call (.Name "list" p) [e] [] pos) (tLstRgG te) :=
  pe_weak (pe_listRg hc hg hm (prg_cut he) na) fun σ H Q q => ⟨_, q, fun _ _ _ z => ⟨z.1, fun p hp => z.2.go p hp⟩⟩
/-- the ints 0 .. n - 1 -/
def upN (n : Nat) : List Int := (List.range n).map fun i => ((i : Nat) : Int)
theorem rgV_upN (n : Nat) : rgV 0 (n : Int) = (upN n).map V.int := by
  unfold rgV upN
  rw [List.map_map]
  have e : ((n : Int) - 0).toNat = n := by omega
  rw [e]
  exact List.map_congr_left fun i _ => by
    show V.int (0 + (i : Int)) = V.int (i : Int)
    rw [Int.zero_add]
theorem upN_len (n : Nat) : (upN n).length = n := by
  unfold upN
  rw [List.length_map, List.length_range]
theorem upN_mem {n : Nat} {r : Int} (h : r ∈ upN n) : 0 ≤ r ∧ r < n := by
  unfold upN at h
  obtain ⟨i, hi, rfl⟩ := List.mem_map.mp h
  have := List.mem_range.mp hi
  omega
theorem upN_nodup (n : Nat) : (upN n).Nodup := by
  unfold upN
  show List.Pairwise _ _
  rw [List.pairwise_map]
  exact List.nodup_range.imp fun h => by omega
end
end My
set_option Elab.async false
set_option linter.all false
set_option maxRecDepth 100000
set_option maxHeartbeats 4000000
namespace K26
open PySem L2 My
def topS (i : Nat) : Stmt := PySem.Challenge.pw_listwindow_k26_clicks_row_by_row.main.body.getD i (.Pass ⟨0, 0, 0, 0⟩)
abbrev PR : Program := PySem.Challenge.pw_listwindow_k26_clicks_row_by_row
abbrev s_init : Stmt := inClass (topS 1) 0
abbrev s_check_there : Stmt := topS 9
theorem sc_check_there : FnScope ["there"] ["there"] (defScope s_check_there) := ⟨rfl, rfl, rfl, by decide +kernel, rfl, by decide +kernel, by decide +kernel⟩
abbrev s_are_marks : Stmt := topS 10
theorem sc_are_marks : FnScope ["marks", "one", "other"] ["marks"] (defScope s_are_marks) := ⟨rfl, rfl, rfl, by decide +kernel, rfl, by decide +kernel, by decide +kernel⟩
abbrev s_check_marks : Stmt := topS 11
theorem sc_check_marks : FnScope ["marks"] ["marks"] (defScope s_check_marks) := ⟨rfl, rfl, rfl, by decide +kernel, rfl, by decide +kernel, by decide +kernel⟩
abbrev s_check_clicks : Stmt := topS 12
theorem sc_check_clicks : FnScope ["there", "clicks", "click", "word", "position"] ["there", "clicks"] (defScope s_check_clicks) := ⟨rfl, rfl, rfl, by decide +kernel, rfl, by decide +kernel, by decide +kernel⟩
abbrev s_places_of : Stmt := topS 13
theorem sc_places_of : FnScope ["there", "place", "row"] ["there"] (defScope s_places_of) := ⟨rfl, rfl, rfl, by decide +kernel, rfl, by decide +kernel, by decide +kernel⟩
abbrev s_marked_in : Stmt := topS 14
theorem sc_marked_in : FnScope ["there", "marks", "anchor", "clicks", "places", "found", "word", "position", "row", "first", "last", "is_marked", "other"] ["there", "marks", "anchor", "clicks"] (defScope s_marked_in) := ⟨rfl, rfl, rfl, by decide +kernel, rfl, by decide +kernel, by decide +kernel⟩
abbrev s_check_state : Stmt := topS 15
theorem sc_check_state : FnScope ["there", "marks", "clicks"] ["there", "marks", "clicks"] (defScope s_check_state) := ⟨rfl, rfl, rfl, by decide +kernel, rfl, by decide +kernel, by decide +kernel⟩
abbrev s_marked : Stmt := topS 16
theorem sc_marked : FnScope ["there", "marks", "anchor", "clicks"] ["there", "marks", "anchor", "clicks"] (defScope s_marked) := ⟨rfl, rfl, rfl, by decide +kernel, rfl, by decide +kernel, by decide +kernel⟩
abbrev s_positions : Stmt := topS 17
theorem sc_positions : FnScope ["there", "rows", "place", "row"] ["there", "rows"] (defScope s_positions) := ⟨rfl, rfl, rfl, by decide +kernel, rfl, by decide +kernel, by decide +kernel⟩
abbrev s_anchor_after : Stmt := topS 18
theorem sc_anchor_after : FnScope ["there", "anchor", "clicks"] ["there", "anchor", "clicks"] (defScope s_anchor_after) := ⟨rfl, rfl, rfl, by decide +kernel, rfl, by decide +kernel, by decide +kernel⟩
abbrev s__law_source : Stmt := topS 20
theorem sc__law_source : FnScope ["_law_script", "_law_index", "_law_cell"] ["_law_script", "_law_index"] (defScope s__law_source) := ⟨rfl, rfl, rfl, by decide +kernel, rfl, by decide +kernel, by decide +kernel⟩
abbrev s__law_draw : Stmt := topS 21
theorem sc__law_draw : FnScope ["_law_source_here", "_law_bound", "_law_digit", "_law_mixed"] ["_law_source_here", "_law_bound"] (defScope s__law_draw) := ⟨rfl, rfl, rfl, by decide +kernel, rfl, by decide +kernel, by decide +kernel⟩
abbrev s__law_some : Stmt := topS 22
theorem sc__law_some : FnScope ["_law_source_here", "_law_things", "_law_size", "_law_left", "_law_step"] ["_law_source_here", "_law_things", "_law_size"] (defScope s__law_some) := ⟨rfl, rfl, rfl, by decide +kernel, rfl, by decide +kernel, by decide +kernel⟩
abbrev s__law_clicks : Stmt := topS 23
theorem sc__law_clicks : FnScope ["_law_source_here", "_law_size", "_law_many", "_law_found", "_law_number"] ["_law_source_here", "_law_size", "_law_many"] (defScope s__law_clicks) := ⟨rfl, rfl, rfl, by decide +kernel, rfl, by decide +kernel, by decide +kernel⟩
abbrev s__law_done : Stmt := topS 24
theorem sc__law_done : FnScope ["_law_there", "_law_marks", "_law_anchor_here", "_law_clicks_here", "_law_now", "_law_word", "_law_position", "_law_row", "_law_at", "_law_wanted", "_law_place"] ["_law_there", "_law_marks", "_law_anchor_here", "_law_clicks_here"] (defScope s__law_done) := ⟨rfl, rfl, rfl, by decide +kernel, rfl, by decide +kernel, by decide +kernel⟩
abbrev s__law_anchor : Stmt := topS 25
theorem sc__law_anchor : FnScope ["_law_source_here", "_law_there", "_law_kinds"] ["_law_source_here", "_law_there"] (defScope s__law_anchor) := ⟨rfl, rfl, rfl, by decide +kernel, rfl, by decide +kernel, by decide +kernel⟩
abbrev s__law_case_right : Stmt := topS 26
theorem sc__law_case_right : FnScope ["_law_source_here", "_law_there", "_law_marks", "_law_anchor_here", "_law_clicks_here", "_law_due", "_law_copies", "_law_told", "_law_cut", "_law_half"] ["_law_source_here", "_law_there", "_law_marks", "_law_anchor_here", "_law_clicks_here"] (defScope s__law_case_right) := ⟨rfl, rfl, rfl, by decide +kernel, rfl, by decide +kernel, by decide +kernel⟩
abbrev s_law : Stmt := topS 27
theorem sc_law : FnScope ["_law_script", "_law_index", "_law_source_here", "_law_size", "_law_great", "_law_there", "_law_marks", "_law_many", "_law_clicks_here", "_law_rows", "_law_due", "_law_row", "_law_place"] ["_law_script"] (defScope s_law) := ⟨rfl, rfl, rfl, by decide +kernel, rfl, by decide +kernel, by decide +kernel⟩
structure Txt (K : PySem.W.Frag) (mg : Str → Option Value) where
  a_check_there : Addr
  d_check_there : FuncData
  f_check_there : Fun K "check_there" "check_there" s_check_there a_check_there d_check_there
  g_check_there : mg "check_there" = some (.ref a_check_there)
  a_are_marks : Addr
  d_are_marks : FuncData
  f_are_marks : Fun K "are_marks" "are_marks" s_are_marks a_are_marks d_are_marks
  g_are_marks : mg "are_marks" = some (.ref a_are_marks)
  a_check_marks : Addr
  d_check_marks : FuncData
  f_check_marks : Fun K "check_marks" "check_marks" s_check_marks a_check_marks d_check_marks
  g_check_marks : mg "check_marks" = some (.ref a_check_marks)
  a_check_clicks : Addr
  d_check_clicks : FuncData
  f_check_clicks : Fun K "check_clicks" "check_clicks" s_check_clicks a_check_clicks d_check_clicks
  g_check_clicks : mg "check_clicks" = some (.ref a_check_clicks)
  a_places_of : Addr
  d_places_of : FuncData
  f_places_of : Fun K "places_of" "places_of" s_places_of a_places_of d_places_of
  g_places_of : mg "places_of" = some (.ref a_places_of)
  a_marked_in : Addr
  d_marked_in : FuncData
  f_marked_in : Fun K "marked_in" "marked_in" s_marked_in a_marked_in d_marked_in
  g_marked_in : mg "marked_in" = some (.ref a_marked_in)
  a_check_state : Addr
  d_check_state : FuncData
  f_check_state : Fun K "check_state" "check_state" s_check_state a_check_state d_check_state
  g_check_state : mg "check_state" = some (.ref a_check_state)
  a_marked : Addr
  d_marked : FuncData
  f_marked : Fun K "marked" "marked" s_marked a_marked d_marked
  g_marked : mg "marked" = some (.ref a_marked)
  a_positions : Addr
  d_positions : FuncData
  f_positions : Fun K "positions" "positions" s_positions a_positions d_positions
  g_positions : mg "positions" = some (.ref a_positions)
  a_anchor_after : Addr
  d_anchor_after : FuncData
  f_anchor_after : Fun K "anchor_after" "anchor_after" s_anchor_after a_anchor_after d_anchor_after
  g_anchor_after : mg "anchor_after" = some (.ref a_anchor_after)
  a__law_source : Addr
  d__law_source : FuncData
  f__law_source : Fun K "_law_source" "_law_source" s__law_source a__law_source d__law_source
  g__law_source : mg "_law_source" = some (.ref a__law_source)
  a__law_draw : Addr
  d__law_draw : FuncData
  f__law_draw : Fun K "_law_draw" "_law_draw" s__law_draw a__law_draw d__law_draw
  g__law_draw : mg "_law_draw" = some (.ref a__law_draw)
  a__law_some : Addr
  d__law_some : FuncData
  f__law_some : Fun K "_law_some" "_law_some" s__law_some a__law_some d__law_some
  g__law_some : mg "_law_some" = some (.ref a__law_some)
  a__law_clicks : Addr
  d__law_clicks : FuncData
  f__law_clicks : Fun K "_law_clicks" "_law_clicks" s__law_clicks a__law_clicks d__law_clicks
  g__law_clicks : mg "_law_clicks" = some (.ref a__law_clicks)
  a__law_done : Addr
  d__law_done : FuncData
  f__law_done : Fun K "_law_done" "_law_done" s__law_done a__law_done d__law_done
  g__law_done : mg "_law_done" = some (.ref a__law_done)
  a__law_anchor : Addr
  d__law_anchor : FuncData
  f__law_anchor : Fun K "_law_anchor" "_law_anchor" s__law_anchor a__law_anchor d__law_anchor
  g__law_anchor : mg "_law_anchor" = some (.ref a__law_anchor)
  a__law_case_right : Addr
  d__law_case_right : FuncData
  f__law_case_right : Fun K "_law_case_right" "_law_case_right" s__law_case_right a__law_case_right d__law_case_right
  g__law_case_right : mg "_law_case_right" = some (.ref a__law_case_right)
  a_law : Addr
  d_law : FuncData
  f_law : Fun K "law" "law" s_law a_law d_law
  g_law : mg "law" = some (.ref a_law)
  fI : Addr
  cI : Addr
  cdI : Addr
  dD : Addr
  dI : FuncData
  iT : InitT PR K mg s_init "WindowError.__init__" fI cI cdI dD dI
  c_WindowError : Addr
  e_WindowError : ErrC K fI dD c_WindowError
  g_WindowError : mg "WindowError" = some (.ref c_WindowError)
  c_InvalidRows : Addr
  e_InvalidRows : ErrC K fI dD c_InvalidRows
  g_InvalidRows : mg "InvalidRows" = some (.ref c_InvalidRows)
  c_InvalidPosition : Addr
  e_InvalidPosition : ErrC K fI dD c_InvalidPosition
  g_InvalidPosition : mg "InvalidPosition" = some (.ref c_InvalidPosition)
  c_InvalidMarks : Addr
  e_InvalidMarks : ErrC K fI dD c_InvalidMarks
  g_InvalidMarks : mg "InvalidMarks" = some (.ref c_InvalidMarks)
  c_InvalidDeed : Addr
  e_InvalidDeed : ErrC K fI dD c_InvalidDeed
  g_InvalidDeed : mg "InvalidDeed" = some (.ref c_InvalidDeed)
  k_CLICK : Tok
  g_CLICK : mg "CLICK" = some (.str "click" k_CLICK)
  k_RANGE : Tok
  g_RANGE : mg "RANGE" = some (.str "range" k_RANGE)
  z_len : mg "len" = none
  z_set : mg "set" = none
  z_list : mg "list" = none
  z_all : mg "all" = none
  z_zip : mg "zip" = none
  z_enumerate : mg "enumerate" = none
  z_sorted : mg "sorted" = none
  z_min : mg "min" = none
  z_max : mg "max" = none
  z_int : mg "int" = none
  z_range : mg "range" = none
  z_dict : mg "dict" = none
  z_repr : mg "repr" = none
theorem ok_init {w : World} {K : PySem.W.Frag} {mg : Str → Option Value} {base : Heap} (T : Txt K mg) : FnOk PR w K mg base CX0 1 T.fI T.dI ["self", "value"] (spErr K T.fI T.dD) := ok_err T.iT (NdefX.nscope_by (by decide +kernel)) rfl rfl rfl (fun env => rfl)
theorem b_init {K : PySem.W.Frag} {mg : Str → Option Value} (T : Txt K mg) : Binds K T.dI ["self", "value"] [] := by
  obtain ⟨oc, od, kV, doc, pm, an, ct, osl, e, lk⟩ := T.iT.ex
  rw [e]
  exact .all fun us hl => match us, hl with | [_, _], _ => rfl
theorem b_check_there {K : PySem.W.Frag} {mg : Str → Option Value} (T : Txt K mg) : Binds K T.d_check_there ["there"] [] := T.f_check_there.binds (ps := ["there"]) fun _ _ _ _ _ _ us hl => match us, hl with | [_], _ => rfl
theorem b_are_marks {K : PySem.W.Frag} {mg : Str → Option Value} (T : Txt K mg) : Binds K T.d_are_marks ["marks"] [] := T.f_are_marks.binds (ps := ["marks"]) fun _ _ _ _ _ _ us hl => match us, hl with | [_], _ => rfl
theorem b_check_marks {K : PySem.W.Frag} {mg : Str → Option Value} (T : Txt K mg) : Binds K T.d_check_marks ["marks"] [] := T.f_check_marks.binds (ps := ["marks"]) fun _ _ _ _ _ _ us hl => match us, hl with | [_], _ => rfl
theorem b_check_clicks {K : PySem.W.Frag} {mg : Str → Option Value} (T : Txt K mg) : Binds K T.d_check_clicks ["there", "clicks"] [] := T.f_check_clicks.binds (ps := ["there", "clicks"]) fun _ _ _ _ _ _ us hl => match us, hl with | [_, _], _ => rfl
theorem b_places_of {K : PySem.W.Frag} {mg : Str → Option Value} (T : Txt K mg) : Binds K T.d_places_of ["there"] [] := T.f_places_of.binds (ps := ["there"]) fun _ _ _ _ _ _ us hl => match us, hl with | [_], _ => rfl
theorem b_marked_in {K : PySem.W.Frag} {mg : Str → Option Value} (T : Txt K mg) : Binds K T.d_marked_in ["there", "marks", "anchor", "clicks"] [] := T.f_marked_in.binds (ps := ["there", "marks", "anchor", "clicks"]) fun _ _ _ _ _ _ us hl => match us, hl with | [_, _, _, _], _ => rfl
theorem b_check_state {K : PySem.W.Frag} {mg : Str → Option Value} (T : Txt K mg) : Binds K T.d_check_state ["there", "marks", "clicks"] [] := T.f_check_state.binds (ps := ["there", "marks", "clicks"]) fun _ _ _ _ _ _ us hl => match us, hl with | [_, _, _], _ => rfl
theorem b_marked {K : PySem.W.Frag} {mg : Str → Option Value} (T : Txt K mg) : Binds K T.d_marked ["there", "marks", "anchor", "clicks"] [] := T.f_marked.binds (ps := ["there", "marks", "anchor", "clicks"]) fun _ _ _ _ _ _ us hl => match us, hl with | [_, _, _, _], _ => rfl
theorem b_positions {K : PySem.W.Frag} {mg : Str → Option Value} (T : Txt K mg) : Binds K T.d_positions ["there", "rows"] [] := T.f_positions.binds (ps := ["there", "rows"]) fun _ _ _ _ _ _ us hl => match us, hl with | [_, _], _ => rfl
theorem b_anchor_after {K : PySem.W.Frag} {mg : Str → Option Value} (T : Txt K mg) : Binds K T.d_anchor_after ["there", "anchor", "clicks"] [] := T.f_anchor_after.binds (ps := ["there", "anchor", "clicks"]) fun _ _ _ _ _ _ us hl => match us, hl with | [_, _, _], _ => rfl
theorem b__law_source {K : PySem.W.Frag} {mg : Str → Option Value} (T : Txt K mg) : Binds K T.d__law_source ["_law_script", "_law_index"] [] := T.f__law_source.binds (ps := ["_law_script", "_law_index"]) fun _ _ _ _ _ _ us hl => match us, hl with | [_, _], _ => rfl
theorem b__law_draw {K : PySem.W.Frag} {mg : Str → Option Value} (T : Txt K mg) : Binds K T.d__law_draw ["_law_source_here", "_law_bound"] [] := T.f__law_draw.binds (ps := ["_law_source_here", "_law_bound"]) fun _ _ _ _ _ _ us hl => match us, hl with | [_, _], _ => rfl
theorem b__law_some {K : PySem.W.Frag} {mg : Str → Option Value} (T : Txt K mg) : Binds K T.d__law_some ["_law_source_here", "_law_things", "_law_size"] [] := T.f__law_some.binds (ps := ["_law_source_here", "_law_things", "_law_size"]) fun _ _ _ _ _ _ us hl => match us, hl with | [_, _, _], _ => rfl
theorem b__law_clicks {K : PySem.W.Frag} {mg : Str → Option Value} (T : Txt K mg) : Binds K T.d__law_clicks ["_law_source_here", "_law_size", "_law_many"] [] := T.f__law_clicks.binds (ps := ["_law_source_here", "_law_size", "_law_many"]) fun _ _ _ _ _ _ us hl => match us, hl with | [_, _, _], _ => rfl
theorem b__law_done {K : PySem.W.Frag} {mg : Str → Option Value} (T : Txt K mg) : Binds K T.d__law_done ["_law_there", "_law_marks", "_law_anchor_here", "_law_clicks_here"] [] := T.f__law_done.binds (ps := ["_law_there", "_law_marks", "_law_anchor_here", "_law_clicks_here"]) fun _ _ _ _ _ _ us hl => match us, hl with | [_, _, _, _], _ => rfl
theorem b__law_anchor {K : PySem.W.Frag} {mg : Str → Option Value} (T : Txt K mg) : Binds K T.d__law_anchor ["_law_source_here", "_law_there"] [] := T.f__law_anchor.binds (ps := ["_law_source_here", "_law_there"]) fun _ _ _ _ _ _ us hl => match us, hl with | [_, _], _ => rfl
theorem b__law_case_right {K : PySem.W.Frag} {mg : Str → Option Value} (T : Txt K mg) : Binds K T.d__law_case_right ["_law_source_here", "_law_there", "_law_marks", "_law_anchor_here", "_law_clicks_here"] [] := T.f__law_case_right.binds (ps := ["_law_source_here", "_law_there", "_law_marks", "_law_anchor_here", "_law_clicks_here"]) fun _ _ _ _ _ _ us hl => match us, hl with | [_, _, _, _, _], _ => rfl
theorem b_law {K : PySem.W.Frag} {mg : Str → Option Value} (T : Txt K mg) : Binds K T.d_law ["_law_script"] [] := T.f_law.binds (ps := ["_law_script"]) fun _ _ _ _ _ _ us hl => match us, hl with | [_], _ => rfl
theorem kb_marked_0_clicks_anchor_marks_there {K : PySem.W.Frag} {mg : Str → Option Value} (T : Txt K mg) : KBinds K T.d_marked ["there", "marks", "anchor", "clicks"] ["clicks", "anchor", "marks", "there"] (kg 0 4 [3, 2, 1, 0]) (kg 0 4 [3, 2, 1, 0]) := kbinds 0 4 [3, 2, 1, 0] T.f_marked (by decide) fun _ _ _ _ _ _ us ws h1 h2 => match us, h1, ws, h2 with | [], _, [_, _, _, _], _ => rfl
theorem kb_anchor_after_0_clicks_there_anchor {K : PySem.W.Frag} {mg : Str → Option Value} (T : Txt K mg) : KBinds K T.d_anchor_after ["there", "anchor", "clicks"] ["clicks", "there", "anchor"] (kg 0 3 [1, 2, 0]) (kg 0 3 [1, 2, 0]) := kbinds 0 3 [1, 2, 0] T.f_anchor_after (by decide) fun _ _ _ _ _ _ us ws h1 h2 => match us, h1, ws, h2 with | [], _, [_, _, _], _ => rfl
theorem kb_positions_0_rows_there {K : PySem.W.Frag} {mg : Str → Option Value} (T : Txt K mg) : KBinds K T.d_positions ["there", "rows"] ["rows", "there"] (kg 0 2 [1, 0]) (kg 0 2 [1, 0]) := kbinds 0 2 [1, 0] T.f_positions (by decide) fun _ _ _ _ _ _ us ws h1 h2 => match us, h1, ws, h2 with | [], _, [_, _], _ => rfl
end K26
set_option Elab.async false
set_option linter.all false
set_option maxRecDepth 100000
set_option maxHeartbeats 4000000
namespace K26
open PySem L2 My
theorem at0 {α : Type} {a : α} {l : List α} : atI (a :: l) 0 = some a := atI_nat (j := 0) rfl
theorem at1 {α : Type} {a b : α} {l : List α} : atI (a :: b :: l) 1 = some b := atI_nat (j := 1) rfl
theorem at2 {α : Type} {a b c : α} {l : List α} : atI (a :: b :: c :: l) 2 = some c := atI_nat (j := 2) rfl
theorem mapI_get {ts : List Int} {i : Nat} {x : V} (h : (ts.map V.int)[i]? = some x) : ∃ t, ts[i]? = some t ∧ x = V.int t := by
  rw [List.getElem?_map] at h
  cases e : ts[i]? with
  | none =>
    rw [e] at h
    cases h
  | some t =>
    rw [e] at h
    exact ⟨t, rfl, (Option.some.inj h).symm⟩
/-! ### clicks and what they do -/
abbrev Cl := Str × Int
def IsCl (K : PySem.W.Frag) (H : Hp) (v : V) (c : Cl) : Prop := ∃ q, v = .ref q ∧ SqT K H q [.str c.1, .int c.2]
def Cls (K : PySem.W.Frag) (H : Hp) (vs : List V) (cs : List Cl) : Prop := vs.length = cs.length ∧ ∀ (i : Nat) v c, vs[i]? = some v → cs[i]? = some c → IsCl K H v c
theorem Cls.ex {K : PySem.W.Frag} {H H' : Hp} {vs : List V} {cs : List Cl} (e : Ex H H') (h : Cls K H vs cs) : Cls K H' vs cs := ⟨h.1, fun i v c h1 h2 => by
  obtain ⟨q, e1, e2⟩ := h.2 i v c h1 h2
  exact ⟨q, e1, Evl.ex_t e e2⟩⟩
theorem Cls.get {K : PySem.W.Frag} {H : Hp} {vs : List V} {cs : List Cl} (h : Cls K H vs cs) {i : Nat} {v : V} (hi : vs[i]? = some v) : ∃ c q, cs[i]? = some c ∧ v = .ref q ∧ SqT K H q [.str c.1, .int c.2] := by
  have hlt : i < vs.length := (List.getElem?_eq_some_iff.mp hi).1
  have hc : cs[i]? = some (cs[i]'(by rw [← h.1]; exact hlt)) := List.getElem?_eq_getElem _
  obtain ⟨q, e1, e2⟩ := h.2 i v _ hi hc
  exact ⟨_, q, hc, e1, e2⟩
def ClOk (n : Nat) (cs : List Cl) : Prop := ∀ c ∈ cs, (c.1 = "click" ∨ c.1 = "range") ∧ 0 ≤ c.2 ∧ c.2 < n
def anV : Option Int → V
  | none => .non
  | some n => .int n
abbrev State := (Int → Bool) × Option Int
def rowAt (there : List Int) (p : Int) : Int := there.getD p.toNat 0
/-- the rows between two places, both within -/
def span (there : List Int) (a b : Nat) : List Int := (there.drop (min a b)).take (max a b + 1 - min a b)
def step (there : List Int) (st : State) (c : Cl) : State :=
  match (if c.1 = "range" then st.2 else none) with
  | some an => if an ∈ there then (fun r => if r ∈ span there (there.idxOf an) c.2.toNat then st.1 an else st.1 r, st.2) else (fun r => if r = rowAt there c.2 then !st.1 r else st.1 r, some (rowAt there c.2))
  | none => (fun r => if r = rowAt there c.2 then !st.1 r else st.1 r, some (rowAt there c.2))
def done (there marks : List Int) (an : Option Int) (cs : List Cl) : State := cs.foldl (step there) (fun r => decide (r ∈ marks), an)
def sp_check_there (K : PySem.W.Frag) : Sp := fun vs H Q _ => ∃ (a : Addr) (ns : List Int), vs = [.ref a] ∧ SqL K H a (ns.map V.int) ∧ ns.Nodup ∧ ns.length ≤ 1000 ∧ Q .non H
def sp_are_marks (K : PySem.W.Frag) : Sp := fun vs H Q _ => ∃ (a : Addr) (ms : List Int), vs = [.ref a] ∧ SqL K H a (ms.map V.int) ∧ ms.Pairwise (· < ·) ∧ ms.length ≤ 1000 ∧ Evl.RetV (.bl true) H Q
def sp_check_marks (K : PySem.W.Frag) : Sp := fun vs H Q _ => ∃ (a : Addr) (ms : List Int), vs = [.ref a] ∧ SqL K H a (ms.map V.int) ∧ ms.Pairwise (· < ·) ∧ ms.length ≤ 1000 ∧ Evl.RetV .non H Q
def sp_check_clicks (K : PySem.W.Frag) : Sp := fun vs H Q _ => ∃ (a b : Addr) (ns : List Int) (xs : List V) (cs : List Cl), vs = [.ref a, .ref b] ∧ SqL K H a (ns.map V.int) ∧ SqL K H b xs ∧ Cls K H xs cs ∧ ClOk ns.length cs ∧ Evl.RetV .non H Q
def sp_check_state (K : PySem.W.Frag) : Sp := fun vs H Q _ => ∃ (a m b : Addr) (ns ms : List Int) (xs : List V) (cs : List Cl), vs = [.ref a, .ref m, .ref b] ∧ SqL K H a (ns.map V.int) ∧ SqL K H m (ms.map V.int) ∧ SqL K H b xs ∧ ns.Nodup ∧ ns.length ≤ 1000 ∧ ms.Pairwise (· < ·) ∧ ms.length ≤ 1000 ∧ Cls K H xs cs ∧ ClOk ns.length cs ∧ Evl.RetV .non H Q
def sp_places_of (K : PySem.W.Frag) : Sp := fun vs H Q _ => ∃ (a : Addr) (ns : List Int), vs = [.ref a] ∧ SqL K H a (ns.map V.int) ∧ ns.Nodup ∧ ns.length ≤ 1000 ∧ ∀ p H', H p = none → Ex H H' → H' p = some (.dK (kvsOf ns fun n => .int (ns.idxOf n : Nat))) → Q (.ref p) H'
section
variable {w : World} {K : PySem.W.Frag} {mg : Str → Option Value} {base : Heap}
theorem nef {a b : V} (h : a = b) : (!decide (a = b)) = false := by
  rw [decide_eq_true h]
  rfl
theorem ok_check_there (T : Txt K mg) : FnOk PR w K mg base (L2.CX PR w) 3 T.a_check_there T.d_check_there ["there"] (sp_check_there K) := by
  refine T.f_check_there.okX sc_check_there (fun vs H Q E h => ?_) (fun cdv A outer s H vs Q E hr h => ?_)
  · obtain ⟨a, ns, rfl, _⟩ := h
    rfl
  · obtain ⟨a, ns, rfl, ha, nd, hl, k⟩ := h
    refine ⟨_, (pss_one (ps_if (pt_cmpR op_ne (RZ.pe_lenSetI (by rfl) T.z_len (by rfl) T.z_set (pv 0)) (pe_callB call_len_seq (by rfl) T.z_len PySem.boot_len (pa_cons (pv 0) pa_nil)) (nomark _)) (pss_one (ps_raise rfl (takes_of rfl rfl rfl rfl) (pmk_err (ok_init T) (b_init T) T.e_InvalidRows (hr.mono (by decide)) (by rfl) T.g_InvalidRows (pa_cons (pe_callTy call_listG (by rfl) T.z_list (by decide +kernel) (pa_cons (pv 0) pa_nil)) pa_nil)))) pss_nil)), ?_⟩
    refine ⟨_, rfl, a, ns, rfl, ha, nd, by omega, _, rfl, _, _, rfl, .inl ha, rfl, _, rfl, ifF (nef (by rw [List.length_map])) ?_⟩
    exact k
theorem ok_are_marks (T : Txt K mg) : FnOk PR w K mg base CX0 1 T.a_are_marks T.d_are_marks ["marks"] (sp_are_marks K) := by
  refine T.f_are_marks.ok sc_are_marks (fun vs H Q E h => ?_) (fun cdv A outer s H vs Q E hr h => ?_)
  · obtain ⟨a, ms, rfl, _⟩ := h
    rfl
  · obtain ⟨a, ms, rfl, ha, pw, hl, k⟩ := h
    refine ⟨_, (pss_one (ps_ret (pe_callB (cr_all rfl) (by rfl) T.z_all (by decide +kernel) (pa_cons (pe_lc (own := [("one", 1), ("other", 2)]) (g := (gTup K 2 (gCons (gName 1) (gCons (gName 2) gNil)))) (by rfl) sc_are_marks.nd (pi_zip (by rfl) T.z_zip (pa_cons (pv 0) (pa_cons (pe_slice sl_listG (pv 0) (po_some pe_int) po_none) pa_nil))) (blkOk_by (own := [("one", 1), ("other", 2)]) (N := ["marks", "one", "other"]) (sc := defScope s_are_marks) (by decide +kernel)) (fun _ _ _ _ _ => (pg_tup rfl (pgs_cons (pg_name (i := 1) sc_are_marks.nd rfl (by first | exact Or.inl rfl | exact Or.inr rfl)) (pgs_cons (pg_name (i := 2) sc_are_marks.nd rfl (by first | exact Or.inl rfl | exact Or.inr rfl)) pgs_nil)))) (fun _ _ _ _ _ => pts_nil) (fun _ _ _ _ _ => (pe_cmpR op_lt (pv 1) (pv 2) (nomark _)))) pa_nil)))), ?_⟩
    have ec : cutV (ms.map V.int) (some 1) none = (ms.drop 1).map V.int := by
      rw [List.map_drop]
      exact cut_from _ 1
    refine ⟨_, rfl, _, rfl, _, rfl, _, _, rfl, ha, fun p1 H1 n1 e1 h1 => ?_⟩
    rw [ec] at h1
    have ha1 := Evl.ex_l e1 ha
    refine ⟨a, p1, _, _, rfl, ha1, sqI h1, fun D hD => lc_it (walk_zip (K := K) (a := a) (b := p1) (xs := ms.map V.int) (ys := (ms.drop 1).map V.int) rfl) (fun i H' => Ex H1 H' ∧ H' D = some (.lst ((List.replicate i true).map V.bl))) ⟨Evl.Ex.new hD, upd_same⟩ (fun i H' _ z => ⟨Evl.ex_l z.1 ha1, sqI (z.1 _ _ h1)⟩) ?_ ?_⟩
    · rintro i v H2 H3 hi ⟨e2, d2⟩ ⟨q, x, y, rfl, nq, rfl, hx, hy⟩
      obtain ⟨t, ht, rfl⟩ := mapI_get hx
      obtain ⟨u, hu, rfl⟩ := mapI_get hy
      rw [List.getElem?_drop] at hu
      have e3 : Ex H2 (upd H2 q (.tup [.int t, .int u])) := Evl.Ex.new nq
      have hp : upd H2 q (.tup [.int t, .int u]) q = some (.tup [.int t, .int u]) := upd_same
      generalize upd H2 q (.tup [.int t, .int u]) = H4 at e3 hp ⊢
      have lt : t < u := by
        obtain ⟨i1, e1⟩ := List.getElem?_eq_some_iff.mp ht
        obtain ⟨i2, e2⟩ := List.getElem?_eq_some_iff.mp hu
        rw [← e1, ← e2]
        exact List.pairwise_iff_getElem.mp pw i (1 + i) i1 i2 (by omega)
      refine ⟨_, _, rfl, sqT hp, rfl, _, _, rfl, _, _, rfl, rfl, rfl, ?_⟩
      refine ⟨_, rfl, _, rfl, _, _, rfl, rfl, _, e3 _ _ d2, ?_, ?_⟩
      · rw [List.length_map, List.length_replicate]
        have : i < (ms.map V.int).length := Nat.lt_of_lt_of_le hi (Nat.min_le_left _ _)
        rw [List.length_map] at this
        exact Nat.lt_of_lt_of_le (show i < 1000 by omega) (by decide)
      · refine ⟨Evl.Ex.mut (e2.trans e3) hD, ?_⟩
        rw [upd_same, List.replicate_succ', List.map_append]
        show some (HO.lst (_ ++ [V.bl (decide (t < u))])) = _
        rw [decide_eq_true lt]
        rfl
    · rintro H2 ⟨e2, d2⟩
      refine ⟨D, _, rfl, sqI d2, ?_⟩
      rw [List.all_replicate]
      have := k _ (e1.trans e2)
      split
      · exact this
      · exact this
theorem ok_check_marks (T : Txt K mg) : FnOk PR w K mg base (L2.CX PR w) 3 T.a_check_marks T.d_check_marks ["marks"] (sp_check_marks K) := by
  refine T.f_check_marks.okX sc_check_marks (fun vs H Q E h => ?_) (fun cdv A outer s H vs Q E hr h => ?_)
  · obtain ⟨a, ms, rfl, _⟩ := h
    rfl
  · obtain ⟨a, ms, rfl, ha, pw, hl, k⟩ := h
    refine ⟨_, (pss_one (ps_if (pt_not (pt_val (pe_call (ok_are_marks T) (hr.mono (by decide)) (by rfl) T.g_are_marks T.f_are_marks.kp (b_are_marks T) .nil pass0 (pa_cons (pv 0) pa_nil)))) (pss_one (ps_raise rfl (takes_of rfl rfl rfl rfl) (pmk_err (ok_init T) (b_init T) T.e_InvalidMarks (hr.mono (by decide)) (by rfl) T.g_InvalidMarks (pa_cons (pe_callTy call_listG (by rfl) T.z_list (by decide +kernel) (pa_cons (pv 0) pa_nil)) pa_nil)))) pss_nil)), ?_⟩
    refine ⟨_, rfl, a, ms, rfl, ha, pw, hl, fun H1 e1 => ?_⟩
    exact ⟨_, rfl, iteF (k _ e1)⟩
theorem ok_check_clicks (T : Txt K mg) : FnOk PR w K mg base (L2.CX PR w) 3 T.a_check_clicks T.d_check_clicks ["there", "clicks"] (sp_check_clicks K) := by
  refine T.f_check_clicks.okX sc_check_clicks (fun vs H Q E h => ?_) (fun cdv A outer s H vs Q E hr h => ?_)
  · obtain ⟨a, b, ns, xs, cs, rfl, _⟩ := h
    rfl
  · obtain ⟨a, b, ns, xs, cs, rfl, ha, hb, hc, ok, k⟩ := h
    refine ⟨_, (pss_cons (ps_for (passes_of rfl) rfl (pi_list (pv 1)) (pg_name (i := 2) sc_check_clicks.nd rfl (by first | exact Or.inl rfl | exact Or.inr rfl)) (pss_one (ps_if (PW.pt (pw_or (pt_cmpR op_ne (pe_callB call_len_seq (by rfl) T.z_len PySem.boot_len (pa_cons (pv 2) pa_nil)) pe_int (nomark _)) (pw_or1 (pt_cmpR op_notIn_seq (pe_ix ix_tup (pv 2) pe_int (fun _ _ => rfl)) (pe_tupG (pa_cons (pe_glob (v := .str "click") rfl T.g_CLICK ⟨_, rfl⟩) (pa_cons (pe_glob (v := .str "range") rfl T.g_RANGE ⟨_, rfl⟩) pa_nil))) (by rfl))))) (pss_one (ps_raise rfl (takes_of rfl rfl rfl rfl) (pmk_err (ok_init T) (b_init T) T.e_InvalidDeed (hr.mono (by decide)) (by rfl) T.g_InvalidDeed (pa_cons (pv 2) pa_nil)))) pss_nil))) (pss_one (ps_for (passes_of rfl) rfl (pi_list (pv 1)) (pg_tup rfl (pgs_cons (pg_name (i := 3) sc_check_clicks.nd rfl (by first | exact Or.inl rfl | exact Or.inr rfl)) (pgs_cons (pg_name (i := 4) sc_check_clicks.nd rfl (by first | exact Or.inl rfl | exact Or.inr rfl)) pgs_nil))) (pss_one (ps_if (pt_not (pt_chain op_le op_lt pe_int (pv 4) (pe_callB call_len_seq (by rfl) T.z_len PySem.boot_len (pa_cons (pv 0) pa_nil)))) (pss_one (ps_raise rfl (takes_of rfl rfl rfl rfl) (pmk_err (ok_init T) (b_init T) T.e_InvalidPosition (hr.mono (by decide)) (by rfl) T.g_InvalidPosition (pa_cons (pv 4) pa_nil)))) pss_nil))))), ?_⟩
    refine ⟨_, rfl, b, rfl, ⟨_, hb⟩, for_list (K := K) (a := b) (xs := xs) (fun i σ H' => ∃ v, σ = [some (.ref a), some (.ref b), v, none, none] ∧ Ex H H') ⟨_, rfl, Evl.Ex.refl _⟩ (fun i σ H' _ ⟨_, _, e⟩ => Evl.ex_l e hb) ?_ ?_⟩
    · rintro i x σ H' hi ⟨v, rfl, e⟩
      obtain ⟨c, q, hci, rfl, hq⟩ := (hc.ex e).get hi
      have cok := ok c (List.mem_of_getElem? hci)
      refine ⟨_, rfl, _, _, rfl, .inr hq, rfl, _, rfl, ifF rfl ?_⟩
      refine ⟨_, rfl, _, _, _, _, rfl, rfl, hq, at0, (by show 2 ≤ sizeLine; decide), fun p1 H1 n1 e1 h1 => ?_⟩
      refine ⟨_, _, rfl, .inr (sqT h1), rfl, rfl, _, rfl, ifF ?_ ?_⟩
      · rcases cok.1 with z | z
        · rw [z]
          decide +kernel
        · rw [z]
          decide +kernel
      · exact ⟨_, rfl, e.trans e1⟩
    · rintro σ H0 ⟨v, rfl, e0⟩
      refine ⟨_, rfl, b, rfl, ⟨_, Evl.ex_l e0 hb⟩, for_list (K := K) (a := b) (xs := xs) (fun i σ H' => ∃ v v3 v4, σ = [some (.ref a), some (.ref b), v, v3, v4] ∧ Ex H H') ⟨_, _, _, rfl, e0⟩ (fun i σ H' _ ⟨_, _, _, _, e⟩ => Evl.ex_l e hb) ?_ ?_⟩
      · rintro i x σ H' hi ⟨v, v3, v4, rfl, e⟩
        obtain ⟨c, q, hci, rfl, hq⟩ := (hc.ex e).get hi
        have cok := ok c (List.mem_of_getElem? hci)
        refine ⟨_, _, rfl, hq, rfl, _, _, rfl, _, _, rfl, rfl, ?_⟩
        refine ⟨_, rfl, _, _, rfl, rfl, _, rfl, ifT (decide_eq_true cok.2.1) ?_⟩
        refine ⟨_, rfl, _, _, rfl, .inl (Evl.ex_l e ha), _, _, rfl, rfl, _, rfl, ?_⟩
        have lt : c.2 < ((ns.map V.int).length : Int) := by
          rw [List.length_map]
          exact cok.2.2
        refine ifF (by rw [decide_eq_true lt]; rfl) ?_
        exact ⟨_, _, _, rfl, e⟩
      · rintro σ H' ⟨v, v3, v4, rfl, e⟩
        exact k _ e
theorem ok_check_state (T : Txt K mg) : FnOk PR w K mg base (L2.CX PR w) 4 T.a_check_state T.d_check_state ["there", "marks", "clicks"] (sp_check_state K) := by
  refine T.f_check_state.okX sc_check_state (fun vs H Q E h => ?_) (fun cdv A outer s H vs Q E hr h => ?_)
  · obtain ⟨a, m, b, ns, ms, xs, cs, rfl, _⟩ := h
    rfl
  · obtain ⟨a, m, b, ns, ms, xs, cs, rfl, ha, hm, hb, nd, hl, pw, hl2, hc, ok, k⟩ := h
    refine ⟨_, (pss_cons (ps_expr (pe_call (ok_check_there T) (hr.mono (by decide)) (by rfl) T.g_check_there T.f_check_there.kp (b_check_there T) .nil passX (pa_cons (pv 0) pa_nil))) (pss_cons (ps_expr (pe_call (ok_check_marks T) (hr.mono (by decide)) (by rfl) T.g_check_marks T.f_check_marks.kp (b_check_marks T) .nil passX (pa_cons (pv 1) pa_nil))) (pss_one (ps_expr (pe_call (ok_check_clicks T) (hr.mono (by decide)) (by rfl) T.g_check_clicks T.f_check_clicks.kp (b_check_clicks T) .nil passX (pa_cons (pv 0) (pa_cons (pv 2) pa_nil))))))), ?_⟩
    refine ⟨_, rfl, a, ns, rfl, ha, nd, hl, ?_⟩
    refine ⟨_, rfl, m, ms, rfl, hm, pw, hl2, fun H1 e1 => ?_⟩
    refine ⟨_, rfl, _, rfl, a, b, ns, xs, cs, rfl, Evl.ex_l e1 ha, Evl.ex_l e1 hb, hc.ex e1, ok, fun H2 e2 => ?_⟩
    exact k _ (e1.trans e2)
end
end K26
set_option Elab.async false
set_option linter.all false
set_option maxRecDepth 100000
set_option maxHeartbeats 4000000
namespace K26
open PySem L2 My
def sp_marked_in (K : PySem.W.Frag) : Sp := fun vs H Q _ => ∃ (a m b : Addr) (ns ms : List Int) (xs : List V) (cs : List Cl) (an : Option Int), vs = [.ref a, .ref m, anV an, .ref b] ∧ SqL K H a (ns.map V.int) ∧ SqL K H m (ms.map V.int) ∧ SqL K H b xs ∧ ns.Nodup ∧ ns.length ≤ 1000 ∧ ms.Nodup ∧ ms.length ≤ 1000 ∧ Cls K H xs cs ∧ ClOk ns.length cs ∧
  ∀ (p q : Addr) (H' : Hp) (rs : List Int), H p = none → Ex H H' → p ≠ q → H q = none → H' q = some (.tup [.ref p, anV (done ns ms an cs).2]) → H' p = some (.lst (rs.map V.int)) → rs.Pairwise (· < ·) → (∀ r, r ∈ rs ↔ (done ns ms an cs).1 r = true) → (∀ r ∈ rs, r ∈ ms ++ ns) → Q (.ref q) H'
theorem span_take {there : List Int} {a b i : Nat} {x : Int} (h : (span there a b)[i]? = some x) : x ∈ there := by
  have := List.mem_of_getElem? h
  exact List.mem_of_mem_drop (List.mem_of_mem_take this)
section
variable {w : World} {K : PySem.W.Frag} {mg : Str → Option Value} {base : Heap}
theorem ok_places_of (T : Txt K mg) : FnOk PR w K mg base CX0 1 T.a_places_of T.d_places_of ["there"] (sp_places_of K) := by
  refine T.f_places_of.ok sc_places_of (fun vs H Q E h => ?_) (fun cdv A outer s H vs Q E hr h => ?_)
  · obtain ⟨a, ns, rfl, _⟩ := h
    rfl
  · obtain ⟨a, ns, rfl, ha, nd, hl, k⟩ := h
    refine ⟨_, (pss_one (ps_ret (pe_dc (own := [("place", 1), ("row", 2)]) (g := (gTup K 2 (gCons (gName 1) (gCons (gName 2) gNil)))) (by rfl) sc_places_of.nd (pi_enum (by rfl) T.z_enumerate (pa_cons (pv 0) pa_nil)) (blkOk_by (own := [("place", 1), ("row", 2)]) (N := ["there", "place", "row"]) (sc := defScope s_places_of) (by decide +kernel)) (fun _ _ _ _ _ => (pg_tup rfl (pgs_cons (pg_name (i := 1) sc_places_of.nd rfl (by first | exact Or.inl rfl | exact Or.inr rfl)) (pgs_cons (pg_name (i := 2) sc_places_of.nd rfl (by first | exact Or.inl rfl | exact Or.inr rfl)) pgs_nil)))) (fun _ _ _ _ _ => pts_nil) (fun _ _ _ _ _ => (pv 2)) (fun _ _ _ _ _ => (pv 1))))), ?_⟩
    refine ⟨_, rfl, a, _, rfl, ha, fun D hD => dc_it (walk_enum (K := K) (a := a) (xs := ns.map V.int)) (fun i H' => Ex H H' ∧ H' D = some (.dK (kvsOf (ns.take i) fun n => .int (ns.idxOf n : Nat)))) ⟨Evl.Ex.new hD, upd_same⟩ (fun i H' _ z => Evl.ex_l z.1 ha) ?_ ?_⟩
    · rintro i v H2 H3 hi ⟨e2, d2⟩ ⟨q, x, y, rfl, nq, rfl, hx, hy⟩
      obtain ⟨t, ht, rfl⟩ := mapI_get hy
      cases hx
      have e3 : Ex H2 (upd H2 q (.tup [.int (i : Nat), .int t])) := Evl.Ex.new nq
      have hp : upd H2 q (.tup [.int (i : Nat), .int t]) q = some (.tup [.int (i : Nat), .int t]) := upd_same
      generalize upd H2 q (.tup [.int (i : Nat), .int t]) = H4 at e3 hp ⊢
      refine ⟨_, _, rfl, sqT hp, rfl, _, _, rfl, _, _, rfl, rfl, rfl, ?_⟩
      refine ⟨_, rfl, _, rfl, _, Sum.inl t, rfl, e3 _ _ d2, ?_, Evl.Ex.mut (e2.trans e3) hD, ?_⟩
      · rw [kvs_len, List.length_take]
        exact Nat.lt_of_le_of_lt (Nat.min_le_right _ _) (Nat.lt_of_le_of_lt hl (by decide))
      · rw [upd_same, take_snoc ht, ← kvs_snoc _ _ _ (nodup_take nd i ht), idx_of nd ht]
    · rintro H2 ⟨e2, d2⟩
      rw [List.length_map, List.take_length] at d2
      exact k D H2 hD e2 d2
/-- the anchor of a range -/
def rng (there : List Int) (word : Str) (an : Option Int) : Option Int := match an with
  | some n => if word = "range" ∧ n ∈ there then some n else none
  | none => none
theorem rng_some {there : List Int} {word : Str} {an : Option Int} {n : Int} (h : rng there word an = some n) : word = "range" ∧ an = some n ∧ n ∈ there := by
  unfold rng at h
  cases an with
  | none => cases h
  | some m =>
    by_cases c : word = "range" ∧ m ∈ there
    · simp only [if_pos c] at h
      cases h
      exact ⟨c.1, rfl, c.2⟩
    · simp only [if_neg c] at h
      cases h
theorem step_rng {there : List Int} {f : Int → Bool} {an : Option Int} {word : Str} {pos n : Int} (h : rng there word an = some n) :
    step there (f, an) (word, pos) = (fun r => if r ∈ span there (there.idxOf n) pos.toNat then f n else f r, an) := by
  obtain ⟨rfl, rfl, hm⟩ := rng_some h
  show (if n ∈ there then _ else _) = _
  rw [if_pos hm]
theorem step_cl {there : List Int} {f : Int → Bool} {an : Option Int} {word : Str} {pos : Int} (h : rng there word an = none) :
    step there (f, an) (word, pos) = (fun r => if r = rowAt there pos then !f r else f r, some (rowAt there pos)) := by
  unfold rng at h
  unfold step
  cases an with
  | none =>
    have : (if word = "range" then (none : Option Int) else none) = none := by split <;> rfl
    simp only [this]
  | some m =>
    by_cases c : word = "range"
    · by_cases c2 : m ∈ there
      · simp only [if_pos (And.intro c c2)] at h
        cases h
      · simp only [if_pos c, if_neg c2]
    · simp only [if_neg c]
theorem rng_isSome (there : List Int) (word : Str) (an : Option Int) : (rng there word an).isSome = (decide (word = "range") && an.any fun n => decide (n ∈ there)) := by
  unfold rng
  cases an with
  | none => simp
  | some m =>
    by_cases c : word = "range" ∧ m ∈ there
    · simp [if_pos c, c.1, c.2]
    · rw [Bool.eq_iff_iff]
      simp [if_neg c]
      exact fun h1 h2 => c ⟨h1, h2⟩
/-- what stands while clicks are done -/
def MInv (K : PySem.W.Frag) (a m b pd fd : Addr) (ns ms : List Int) (st : State) (H1 : Hp) (σ : L2.St) (H' : Hp) : Prop :=
  ∃ w6 w7 w8 w9 w10 w11 w12 ks, σ = [some (.ref a), some (.ref m), some (anV st.2), some (.ref b), some (.ref pd), some (.ref fd), w6, w7, w8, w9, w10, w11, w12] ∧ Ex H1 H' ∧ H' fd = some (.dK (kvsOf ks tt)) ∧ FdOk st.1 (ms ++ ns) ks
theorem at_row {ns : List Int} {p : Int} (h0 : 0 ≤ p) (h1 : p < ns.length) : atI (ns.map V.int) p = some (.int (rowAt ns p)) := by
  refine at_of (j := p.toNat) (by omega) ?_
  rw [List.getElem?_map, List.getElem?_eq_getElem (by omega)]
  show some (V.int _) = some (V.int (ns.getD p.toNat 0))
  rw [List.getD_eq_getElem?_getD, List.getElem?_eq_getElem (by omega)]
  rfl
theorem row_mem {ns : List Int} {p : Int} (h0 : 0 ≤ p) (h1 : p < ns.length) : rowAt ns p ∈ ns := by
  show ns.getD p.toNat 0 ∈ ns
  rw [List.getD_eq_getElem?_getD, List.getElem?_eq_getElem (show p.toNat < ns.length by omega)]
  exact List.getElem_mem _
theorem big {f : Int → Bool} {ms ns ks : List Int} (h : FdOk f (ms ++ ns) ks) (h1 : ms.length ≤ 1000) (h2 : ns.length ≤ 1000) (g : Int → V) : (kvsOf ks g).length < sizeLine := by
  rw [kvs_len]
  have := h.len
  rw [List.length_append] at this
  exact Nat.lt_of_le_of_lt (show ks.length ≤ 2000 by omega) (by decide)
theorem ok_marked_in (T : Txt K mg) : FnOk PR w K mg base CX0 2 T.a_marked_in T.d_marked_in ["there", "marks", "anchor", "clicks"] (sp_marked_in K) := by
  refine T.f_marked_in.ok sc_marked_in (fun vs H Q E h => ?_) (fun cdv A outer s H vs Q E hr h => ?_)
  · obtain ⟨a, m, b, ns, ms, xs, cs, an, rfl, _⟩ := h
    rfl
  · obtain ⟨a, m, b, ns, ms, xs, cs, an, rfl, ha, hm, hb, nd, hl, nm, hlm, hc, ok, k⟩ := h
    refine ⟨_, (pss_cons (ps_set (i := 4) sc_marked_in.nd rfl (by first | exact Or.inl rfl | exact Or.inr rfl) (pe_call (ok_places_of T) (hr.mono (by decide)) (by rfl) T.g_places_of T.f_places_of.kp (b_places_of T) .nil pass0 (pa_cons (pv 0) pa_nil))) (pss_cons (ps_setDc (i := 5) (own := [("row", 8)]) (g := (gName 8)) (by rfl) sc_marked_in.nd rfl rfl (sw_trueD rfl rfl rfl (by decide +kernel)) (pi_list (pv 1)) (blkOk_by (own := [("row", 8)]) (N := ["there", "marks", "anchor", "clicks", "places", "found", "word", "position", "row", "first", "last", "is_marked", "other"]) (sc := defScope s_marked_in) (by decide +kernel)) (fun _ _ _ _ _ => (pg_name (i := 8) sc_marked_in.nd rfl (by first | exact Or.inl rfl | exact Or.inr rfl))) (fun _ _ _ _ _ => pts_nil) (fun _ _ _ _ _ => (pv 8)) (fun _ _ _ _ _ => pe_bl)) (pss_cons (ps_for PassesOwn.never rfl (pi_list (pv 3)) (pg_tup rfl (pgs_cons (pg_name (i := 6) sc_marked_in.nd rfl (by first | exact Or.inl rfl | exact Or.inr rfl)) (pgs_cons (pg_name (i := 7) sc_marked_in.nd rfl (by first | exact Or.inl rfl | exact Or.inr rfl)) pgs_nil))) (pss_cons (ps_set (i := 8) sc_marked_in.nd rfl (by first | exact Or.inl rfl | exact Or.inr rfl) (pe_ix ix_list (pv 0) (pv 7) (fun _ _ => rfl))) (pss_one (ps_if (pt_cut (PW.pt (pw_and (pt_cmpR op_eq (pv 6) (pe_glob (v := .str "range") rfl T.g_RANGE ⟨_, rfl⟩) (nomark _)) (pw_and1 (pt_cmp (pc_dinN (hu_of hr) (pv 2) (pv 4))))))) (pss_cons (ps_par (by rfl) sc_marked_in.nd rfl rfl (by decide) rfl rfl (i := 9) (j := 10) (pa_cons (pe_callB (call_min2 rfl) (by rfl) T.z_min (by decide +kernel) (pa_cons (pe_dget (hu_of hr) (pv 4) (pv 2) (fun _ _ => rfl)) (pa_cons (pv 7) pa_nil))) (pa_cons (pe_callB (call_max2 rfl) (by rfl) T.z_max (by decide +kernel) (pa_cons (pe_dget (hu_of hr) (pv 4) (pv 2) (fun _ _ => rfl)) (pa_cons (pv 7) pa_nil))) pa_nil)) (by rfl)) (pss_cons (ps_set (i := 11) sc_marked_in.nd rfl (by first | exact Or.inl rfl | exact Or.inr rfl) (pe_cmp (pc_dinN (hu_of hr) (pv 2) (pv 5)))) (pss_one (ps_for PassesOwn.never rfl (pi_list (pe_slice sl_listG (pv 0) (po_some (pv 9)) (po_some (pe_op op_add (pv 10) pe_int)))) (pg_name (i := 12) sc_marked_in.nd rfl (by first | exact Or.inl rfl | exact Or.inr rfl)) (pss_one (ps_if (pt_val (pv 11)) (pss_one (ps_dput (hu_of hr) (pv 5) (pv 12) pe_bl rfl)) (pss_one (ps_expr (pe_dpop2 (pv 5) (pv 12) pe_non ⟨rfl, rfl, rfl, rfl⟩))))))))) (pss_cons (ps_cut (ps_if (pt_cmp (pc_dinN (hu_of hr) (pv 8) (pv 5))) (pss_one (ps_ddel (pv 5) (pv 8))) (pss_one (ps_dput (hu_of hr) (pv 5) (pv 8) pe_bl rfl)))) (pss_one (ps_set (i := 2) sc_marked_in.nd rfl (by first | exact Or.inl rfl | exact Or.inr rfl) (pv 8)))))))) (pss_one (ps_ret (pe_tupG (pa_cons (pe_callB (cr_sortedD rfl) (by rfl) T.z_sorted (by decide +kernel) (pa_cons (pv 5) pa_nil)) (pa_cons (pv 2) pa_nil)))))))), ?_⟩
    -- places = places_of(there)
    refine ⟨_, rfl, a, ns, rfl, ha, nd, hl, fun pd H1 npd e1 hpd => ?_⟩
    -- found = {row: True for row in marks}
    refine ⟨_, rfl, m, rfl, ⟨_, Evl.ex_l e1 hm⟩, fun fd hfd => dc_it (walk_list (K := K) (a := m) (xs := ms.map V.int)) (fun i H' => Ex H1 H' ∧ H' fd = some (.dK (kvsOf (ms.take i) tt))) ⟨Evl.Ex.new hfd, upd_same⟩ (fun i H' _ z => Evl.ex_l (e1.trans z.1) hm) ?_ ?_⟩
    · rintro i v H2 H3 hi ⟨e2, d2⟩ ⟨rfl, hx⟩
      obtain ⟨t, ht, rfl⟩ := mapI_get hx
      refine ⟨rfl, ?_⟩
      refine ⟨_, rfl, _, Sum.inl t, rfl, d2, ?_, Evl.Ex.mut e2 hfd, ?_⟩
      · rw [kvs_len, List.length_take]
        exact Nat.lt_of_le_of_lt (Nat.min_le_right _ _) (Nat.lt_of_le_of_lt hlm (by decide))
      · rw [upd_same, take_snoc ht, ← kvs_snoc _ _ _ (nodup_take nm i ht)]
    · rintro H2 ⟨e2, d2⟩
      rw [List.length_map, List.take_length] at d2
      have npf : pd ≠ fd := ne_of_none hpd hfd
      -- for word, position in clicks:
      refine ⟨_, rfl, b, rfl, ⟨_, Evl.ex_l (e1.trans e2) hb⟩, for_list (K := K) (a := b) (xs := xs) (fun i σ H' => MInv K a m b pd fd ns ms ((cs.take i).foldl (step ns) (fun r => decide (r ∈ ms), an)) H1 σ H') ?_ ?_ ?_ ?_⟩
      · exact ⟨_, _, _, _, _, _, _, ms, rfl, e2, d2, nm, fun r => by simp, fun r hr => List.mem_append_left _ hr⟩
      · rintro i σ H' _ ⟨_, _, _, _, _, _, _, _, _, e, _⟩
        exact Evl.ex_l (e1.trans e) hb
      · rintro i x σ H' hi ⟨w6, w7, w8, w9, w10, w11, w12, ks, rfl, e, d, fok⟩
        obtain ⟨c, q, hci, rfl, hq⟩ := (hc.ex (e1.trans e)).get hi
        have cok := ok c (List.mem_of_getElem? hci)
        rw [foldl_take hci]
        generalize (cs.take i).foldl (step ns) (fun r => decide (r ∈ ms), an) = st at fok ⊢
        obtain ⟨f, an'⟩ := st
        obtain ⟨word, pos⟩ := c
        change FdOk f (ms ++ ns) ks at fok
        refine ⟨_, _, rfl, hq, rfl, _, _, rfl, _, _, rfl, rfl, ?_⟩
        -- row = there[position]
        refine ⟨_, rfl, _, rfl, _, _, _, _, rfl, rfl, Evl.ex_l (e1.trans e) ha, at_row cok.2.1 cok.2.2, ?_⟩
        -- if word == RANGE and anchor in places:
        have hpd' := e _ _ hpd
        have ha' := Evl.ex_l (e1.trans e) ha
        refine ⟨fun b H'' => H'' = H' ∧ b = (rng ns word an').isSome, ?_, ?_⟩
        · refine ⟨_, rfl, rfl, _, rfl, ?_⟩
          rw [rng_isSome]
          refine ifB (fun c => ?_) (fun c => ⟨rfl, ?_⟩)
          · cases an' with
            | none =>
              refine ⟨_, rfl, _, rfl, .inr ⟨_, _, rfl, rfl, .inl hpd', _, rfl, rfl, ?_⟩⟩
              rw [Option.any_none, Bool.and_false]
            | some n =>
              refine ⟨_, rfl, _, rfl, .inl ⟨_, _, rfl, .inl ⟨_, Sum.inl n, .inl hpd', rfl, rfl⟩, _, rfl, rfl, ?_⟩⟩
              rw [valV_kvs, Option.any_some]
              have c' : V.str word = V.str "range" := of_decide_eq_true c
              injection c' with c'
              rw [decide_eq_true c', Bool.true_and]
              by_cases m : n ∈ ns
              · rw [if_pos m, decide_eq_true m]
                rfl
              · rw [if_neg m, decide_eq_false m]
                rfl
          · have c' : ¬ word = "range" := fun z => by
              have := of_decide_eq_false c
              exact this (by rw [z])
            rw [decide_eq_false c', Bool.false_and]
        · rintro bb H'' ⟨rfl, rfl⟩
          cases hrng : rng ns word an' with
          | none =>
            rw [step_cl hrng]
            have rm := row_mem cok.2.1 cok.2.2
            refine iteF ?_
            -- if row in found:
            refine ⟨fun σ' H3 => ∃ ks', σ' = [some (.ref a), some (.ref m), some (anV an'), some (.ref b), some (.ref pd), some (.ref fd), some (.str word), some (.int pos), some (.int (rowAt ns pos)), w9, w10, w11, w12] ∧ Ex H1 H3 ∧ H3 fd = some (.dK (kvsOf ks' tt)) ∧ FdOk (fun r => if r = rowAt ns pos then !f r else f r) (ms ++ ns) ks', ?_, ?_⟩
            · refine ⟨_, rfl, _, rfl, .inl ⟨_, _, rfl, .inl ⟨_, Sum.inl (rowAt ns pos), .inl d, rfl, rfl⟩, _, rfl, ?_⟩⟩
              rw [valV_kvs]
              by_cases mm : rowAt ns pos ∈ ks
              · rw [if_pos mm]
                refine iteT ?_
                refine ⟨_, rfl, _, rfl, _, _, Sum.inl (rowAt ns pos), rfl, d, rfl, by rw [valV_kvs, if_pos mm]; rfl, ?_⟩
                rw [dropK_kvs]
                refine ⟨_, rfl, Evl.Ex.mut e hfd, upd_same, (fok.drop (rowAt ns pos)).congr fun r => ?_⟩
                by_cases z : r = rowAt ns pos
                · rw [if_pos z, if_pos z, z]
                  show false = !f _
                  rw [(fok.is _).mp mm]
                  rfl
                · rw [if_neg z, if_neg z]
              · rw [if_neg mm]
                refine iteF ?_
                refine ⟨_, rfl, _, rfl, _, _, rfl, .inl ⟨_, Sum.inl (rowAt ns pos), d, rfl, big fok hlm hl _, rfl⟩, ?_⟩
                rw [putK_tt]
                refine ⟨_, rfl, Evl.Ex.mut e hfd, upd_same, (fok.put (List.mem_append_right _ rm)).congr fun r => ?_⟩
                by_cases z : r = rowAt ns pos
                · rw [if_pos z, if_pos z, z]
                  show true = !f _
                  cases q : f (rowAt ns pos) with
                  | false => rfl
                  | true => exact absurd ((fok.is _).mpr q) mm
                · rw [if_neg z, if_neg z]
            · rintro σ' H3 ⟨ks', rfl, e3, d3, f3⟩
              exact ⟨_, rfl, _, _, _, _, _, _, _, ks', rfl, e3, d3, f3⟩
          | some n =>
            obtain ⟨rfl, rfl, nm'⟩ := rng_some hrng
            rw [step_rng hrng]
            have ilt : ns.idxOf n < ns.length := List.idxOf_lt_length_of_mem nm'
            have gv : valV (kvsOf ns fun n => V.int (ns.idxOf n : Nat)) (Sum.inl n) = some (.int (ns.idxOf n : Nat)) := by rw [valV_kvs, if_pos nm']
            refine iteT ?_
            -- first, last = ..
            refine ⟨_, rfl, _, rfl, _, _, rfl, .inl ⟨_, Sum.inl n, .inl hpd', rfl, gv.symm⟩, _, rfl, _, _, rfl, ?_⟩
            refine ⟨_, rfl, _, rfl, _, _, rfl, .inl ⟨_, Sum.inl n, .inl hpd', rfl, gv.symm⟩, _, rfl, _, _, rfl, _, _, rfl, ?_⟩
            -- is_marked = anchor in found
            refine ⟨_, rfl, _, rfl, .inl ⟨_, _, rfl, .inl ⟨_, Sum.inl n, .inl d, rfl, rfl⟩, ?_⟩⟩
            have ef : (valV (kvsOf ks tt) (Sum.inl n)).isSome = f n := by
              rw [valV_kvs]
              by_cases z : n ∈ ks
              · rw [if_pos z, (fok.is n).mp z]
                rfl
              · rw [if_neg z]
                cases q : f n with
                | false => rfl
                | true => exact absurd ((fok.is n).mpr q) z
            rw [ef]
            have p0 : 0 ≤ pos := cok.2.1
            have p1 : pos < ns.length := cok.2.2
            have elo : (if pos < (ns.idxOf n : Int) then pos else (ns.idxOf n : Int)) = ((min (ns.idxOf n) pos.toNat : Nat) : Int) := by split <;> omega
            have ehi : (if pos > (ns.idxOf n : Int) then pos else (ns.idxOf n : Int)) = ((max (ns.idxOf n) pos.toNat : Nat) : Int) := by split <;> omega
            -- for other in there[first:last + 1]:
            refine ⟨_, rfl, _, rfl, _, rfl, _, rfl, _, _, rfl, rfl, _, rfl, _, _, rfl, ha', fun p1 H1' n1 e1' h1 => ?_⟩
            have ecut : cutV (ns.map V.int) (some (if pos < (ns.idxOf n : Int) then pos else (ns.idxOf n : Int))) (some ((if pos > (ns.idxOf n : Int) then pos else (ns.idxOf n : Int)) + 1)) = (span ns (ns.idxOf n) pos.toNat).map V.int := by
              rw [elo, ehi]
              refine (cut_mid (n := min (ns.idxOf n) pos.toNat) (m := max (ns.idxOf n) pos.toNat + 1) _ (by rw [List.length_map]; omega)).trans ?_
              unfold span
              rw [List.map_take, List.map_drop]
            have h1 : H1' p1 = some (.lst (cutV (ns.map V.int) (some (if pos < (ns.idxOf n : Int) then pos else (ns.idxOf n : Int))) (some ((if pos > (ns.idxOf n : Int) then pos else (ns.idxOf n : Int)) + 1)))) := h1
            rw [ecut] at h1
            have smem : ∀ r ∈ span ns (ns.idxOf n) pos.toNat, r ∈ ns := fun r hr => List.mem_of_mem_drop (List.mem_of_mem_take hr)
            generalize hsp : span ns (ns.idxOf n) pos.toNat = sp at h1 smem ⊢
            have np1 : p1 ≠ fd := fun z => by rw [z, d] at n1; cases n1
            have nP1 : H1 p1 = none := by
              cases q : H1 p1 with
              | none => rfl
              | some o =>
                rw [e _ _ q] at n1
                cases n1
            refine ⟨p1, rfl, ⟨_, sqI h1⟩, for_list (K := K) (a := p1) (xs := sp.map V.int) (fun j σ' H3 => ∃ v9 v10 v12 ks', σ' = [some (.ref a), some (.ref m), some (.int n), some (.ref b), some (.ref pd), some (.ref fd), some (.str "range"), some (.int pos), some (.int (rowAt ns pos)), v9, v10, some (.bl (f n)), v12] ∧ Ex H1 H3 ∧ H3 p1 = some (.lst (sp.map V.int)) ∧ H3 fd = some (.dK (kvsOf ks' tt)) ∧ FdOk (fun r => if r ∈ sp.take j then f n else f r) (ms ++ ns) ks') ?_ ?_ ?_ ?_⟩
            · exact ⟨_, _, _, ks, rfl, e.trans e1', h1, e1' _ _ d, fok.congr fun r => by simp⟩
            · rintro j σ' H3 _ ⟨_, _, _, _, _, _, z, _⟩
              exact sqI z
            · rintro j x σ' H3 hj ⟨v9, v10, v12, ks', rfl, e3, l3, d3, f3⟩
              obtain ⟨t, ht, rfl⟩ := mapI_get hj
              have tm := smem t (List.mem_of_getElem? ht)
              refine ⟨_, rfl, _, rfl, ?_⟩
              refine ifB (fun c => ?_) (fun c => ?_)
              · refine ⟨_, rfl, _, rfl, _, _, rfl, .inl ⟨_, Sum.inl t, d3, rfl, big f3 hlm hl _, rfl⟩, ?_⟩
                rw [putK_tt]
                refine ⟨_, _, _, _, rfl, Evl.Ex.mut e3 hfd, (by rw [upd_ne np1]; exact l3), upd_same, (f3.put (List.mem_append_right _ tm)).congr fun r => ?_⟩
                rw [take_snoc ht]
                by_cases z : r = t
                · rw [if_pos z, if_pos (by simp [z]), c]
                · rw [if_neg z]
                  by_cases z2 : r ∈ sp.take j
                  · rw [if_pos z2, if_pos (List.mem_append_left _ z2)]
                  · rw [if_neg z2, if_neg (by simp [z, z2])]
              · have fin : ∀ r, (if r = t then false else if r ∈ sp.take j then f n else f r) = if r ∈ sp.take (j + 1) then f n else f r := fun r => by
                  rw [take_snoc ht]
                  by_cases z : r = t
                  · rw [if_pos z, if_pos (by simp [z]), c]
                  · rw [if_neg z]
                    by_cases z2 : r ∈ sp.take j
                    · rw [if_pos z2, if_pos (List.mem_append_left _ z2)]
                    · rw [if_neg z2, if_neg (by simp [z, z2])]
                refine ⟨_, rfl, _, rfl, .inl ⟨_, .inl d3⟩, _, rfl, _, Sum.inl t, d3, rfl, fun v hv => ?_, fun hv => ?_⟩
                · show ∃ v9 v10 v12 ks', _
                  refine ⟨_, _, _, _, rfl, Evl.Ex.mut e3 hfd, (by rw [upd_ne np1]; exact l3), ?_, (f3.drop t).congr fin⟩
                  rw [upd_same, dropK_kvs]
                · refine ⟨_, _, _, ks', rfl, e3, l3, d3, f3.congr fun r => ?_⟩
                  rw [← fin r]
                  by_cases z : r = t
                  · rw [if_pos z]
                    rw [valV_kvs] at hv
                    have nt : t ∉ ks' := fun z2 => by
                      rw [if_pos z2] at hv
                      cases hv
                    cases q : (if r ∈ sp.take j then f n else f r) with
                    | false => rfl
                    | true => exact absurd (z ▸ (f3.is r).mpr q) nt
                  · rw [if_neg z]
            · rintro σ' H3 ⟨v9, v10, v12, ks', rfl, e3, l3, d3, f3⟩
              refine ⟨_, _, _, _, _, _, _, ks', rfl, e3, d3, f3.congr fun r => ?_⟩
              rw [List.length_map, List.take_length]
      · rintro σ H' ⟨w6, w7, w8, w9, w10, w11, w12, ks, rfl, e, d, fok⟩
        have el : xs.length = cs.length := hc.1
        rw [el, List.take_length] at fok
        have ed : (cs.take xs.length).foldl (step ns) (fun r => decide (r ∈ ms), an) = done ns ms an cs := by
          rw [el, List.take_length]
          rfl
        rw [ed]
        have fok : FdOk (done ns ms an cs).1 (ms ++ ns) ks := fok
        refine ⟨_, rfl, fd, _, ks, rfl, d, kvs_keys ks tt, fun rs hp hs p1 H3 n1 e3 h1 => ?_⟩
        refine ⟨_, rfl, (by show 2 ≤ sizeLine; decide), fun p2 H4 n2 e4 h2 => ?_⟩
        have eH : Ex H H' := e1.trans e
        have back : ∀ {x : Addr}, H' x = none → H x = none := fun {x} hx => by
          cases q : H x with
          | none => rfl
          | some o =>
            rw [eH _ _ q] at hx
            cases hx
        have n2' : H' p2 = none := by
          cases q : H' p2 with
          | none => rfl
          | some o =>
            rw [e3 _ _ q] at n2
            cases n2
        exact k p1 p2 H4 rs (back n1) (eH.trans (e3.trans e4)) (ne_of_none h1 n2) (back n2') h2 (e4 _ _ h1) (asc_of hp hs fok.nd) (fun r => by rw [hp.mem_iff, fok.is]) (fun r hr => fok.dm r (hp.mem_iff.mp hr))
end
end K26
set_option Elab.async false
set_option linter.all false
set_option maxRecDepth 100000
set_option maxHeartbeats 4000000
namespace K26
open PySem L2 My
theorem step_an (there : List Int) (f g : Int → Bool) (an : Option Int) (c : Cl) : (step there (f, an) c).2 = (step there (g, an) c).2 := by
  obtain ⟨word, pos⟩ := c
  cases h : rng there word an with
  | none => rw [step_cl h, step_cl h]
  | some n => rw [step_rng h, step_rng h]
theorem fold_an (there : List Int) : ∀ (cs : List Cl) (f g : Int → Bool) (an : Option Int), (cs.foldl (step there) (f, an)).2 = (cs.foldl (step there) (g, an)).2
  | [], _, _, _ => rfl
  | c :: cs, f, g, an => by
    show (cs.foldl (step there) (step there (f, an) c)).2 = (cs.foldl (step there) (step there (g, an) c)).2
    have e := step_an there f g an c
    generalize step there (f, an) c = s1 at e ⊢
    generalize step there (g, an) c = s2 at e ⊢
    obtain ⟨a1, b1⟩ := s1
    obtain ⟨a2, b2⟩ := s2
    have e : b1 = b2 := e
    subst e
    exact fold_an there cs a1 a2 b1
theorem done_an (there ms ms' : List Int) (an : Option Int) (cs : List Cl) : (done there ms an cs).2 = (done there ms' an cs).2 := fold_an there cs _ _ an
def posns (ns rows : List Int) : List Int := ((List.range ns.length).filter fun i => decide (ns.getD i 0 ∈ rows)).map fun i => ((i : Nat) : Int)
theorem inV_int (x : Int) (rows : List Int) : inV (V.int x) (rows.map V.int) = decide (x ∈ rows) := by
  unfold inV
  rw [List.any_map, Bool.eq_iff_iff, List.any_eq_true]
  constructor
  · rintro ⟨n, hn, e⟩
    have : n = x := by
      have e : (n == x) = true := e
      simpa using e
    subst this
    exact decide_eq_true hn
  · intro h
    exact ⟨x, of_decide_eq_true h, by show (x == x) = true; simp⟩
theorem inV_non (rows : List Int) : inV V.non (rows.map V.int) = false := by
  unfold inV
  rw [List.any_map, List.any_eq_false]
  intro n hn
  show ¬ (false = true)
  decide
theorem flatI (rows : List Int) : (rows.map V.int).all flatV = true := by
  rw [List.all_map, List.all_eq_true]
  intro _ _
  rfl
def sp_marked (K : PySem.W.Frag) : Sp := fun vs H Q _ => ∃ (a m b : Addr) (ns ms : List Int) (xs : List V) (cs : List Cl) (an : Option Int), vs = [.ref a, .ref m, anV an, .ref b] ∧ SqL K H a (ns.map V.int) ∧ SqL K H m (ms.map V.int) ∧ SqL K H b xs ∧ ns.Nodup ∧ ns.length ≤ 1000 ∧ ms.Pairwise (· < ·) ∧ ms.length ≤ 1000 ∧ Cls K H xs cs ∧ ClOk ns.length cs ∧
  ∀ (p q : Addr) (H' : Hp) (rs : List Int), H p = none → Ex H H' → p ≠ q → H q = none → H' q = some (.tup [.ref p, anV (done ns ms an cs).2]) → H' p = some (.lst (rs.map V.int)) → rs.Pairwise (· < ·) → (∀ r, r ∈ rs ↔ (done ns ms an cs).1 r = true) → (∀ r ∈ rs, r ∈ ms ++ ns) → Q (.ref q) H'
def sp_positions (K : PySem.W.Frag) : Sp := fun vs H Q _ => ∃ (a b : Addr) (ns rows : List Int), vs = [.ref a, .ref b] ∧ SqL K H a (ns.map V.int) ∧ SqL K H b (rows.map V.int) ∧ ns.Nodup ∧ ns.length ≤ 1000 ∧ New (.lst ((posns ns rows).map V.int)) H Q
def sp_anchor_after (K : PySem.W.Frag) : Sp := fun vs H Q _ => ∃ (a b : Addr) (ns : List Int) (xs : List V) (cs : List Cl) (an : Option Int), vs = [.ref a, anV an, .ref b] ∧ SqL K H a (ns.map V.int) ∧ SqL K H b xs ∧ ns.Nodup ∧ ns.length ≤ 1000 ∧ Cls K H xs cs ∧ ClOk ns.length cs ∧ Evl.RetV (anV (done ns [] an cs).2) H Q
theorem pw_nodup {ms : List Int} (h : ms.Pairwise (· < ·)) : ms.Nodup := h.imp fun z => by omega
theorem Ex_back {H H' : Hp} (e : Ex H H') {x : Addr} (hx : H' x = none) : H x = none := by
  cases q : H x with
  | none => rfl
  | some o =>
    rw [e _ _ q] at hx
    cases hx
section
variable {w : World} {K : PySem.W.Frag} {mg : Str → Option Value} {base : Heap}
theorem ok_marked (T : Txt K mg) : FnOk PR w K mg base (L2.CX PR w) 5 T.a_marked T.d_marked ["there", "marks", "anchor", "clicks"] (sp_marked K) := by
  refine T.f_marked.okX sc_marked (fun vs H Q E h => ?_) (fun cdv A outer s H vs Q E hr h => ?_)
  · obtain ⟨a, m, b, ns, ms, xs, cs, an, rfl, _⟩ := h
    rfl
  · obtain ⟨a, m, b, ns, ms, xs, cs, an, rfl, ha, hm, hb, nd, hl, pw, hlm, hc, ok, k⟩ := h
    refine ⟨_, (pss_cons (ps_expr (pe_call (ok_check_state T) (hr.mono (by decide)) (by rfl) T.g_check_state T.f_check_state.kp (b_check_state T) .nil passX (pa_cons (pv 0) (pa_cons (pv 1) (pa_cons (pv 3) pa_nil))))) (pss_one (ps_ret (pe_call (ok_marked_in T) (hr.mono (by decide)) (by rfl) T.g_marked_in T.f_marked_in.kp (b_marked_in T) .nil pass0 (pa_cons (pv 0) (pa_cons (pv 1) (pa_cons (pv 2) (pa_cons (pv 3) pa_nil)))))))), ?_⟩
    refine ⟨_, rfl, _, rfl, _, rfl, a, m, b, ns, ms, xs, cs, rfl, ha, hm, hb, nd, hl, pw, hlm, hc, ok, fun H1 e1 => ?_⟩
    refine ⟨_, rfl, _, rfl, _, rfl, _, rfl, a, m, b, ns, ms, xs, cs, an, rfl, Evl.ex_l e1 ha, Evl.ex_l e1 hm, Evl.ex_l e1 hb, nd, hl, pw_nodup pw, hlm, hc.ex e1, ok, fun p q H2 rs np e2 npq nq h1 h2 h3 h4 h5 => ?_⟩
    exact k p q H2 rs (Ex_back e1 np) (e1.trans e2) npq (Ex_back e1 nq) h1 h2 h3 h4 h5
theorem ok_positions (T : Txt K mg) : FnOk PR w K mg base (L2.CX PR w) 4 T.a_positions T.d_positions ["there", "rows"] (sp_positions K) := by
  refine T.f_positions.okX sc_positions (fun vs H Q E h => ?_) (fun cdv A outer s H vs Q E hr h => ?_)
  · obtain ⟨a, b, ns, rows, rfl, _⟩ := h
    rfl
  · obtain ⟨a, b, ns, rows, rfl, ha, hb, nd, hl, k⟩ := h
    refine ⟨_, (pss_cons (ps_expr (pe_call (ok_check_there T) (hr.mono (by decide)) (by rfl) T.g_check_there T.f_check_there.kp (b_check_there T) .nil passX (pa_cons (pv 0) pa_nil))) (pss_one (ps_ret (pe_lc (own := [("place", 2), ("row", 3)]) (g := (gTup K 2 (gCons (gName 2) (gCons (gName 3) gNil)))) (by rfl) sc_positions.nd (pi_enum (by rfl) T.z_enumerate (pa_cons (pv 0) pa_nil)) (blkOk_by (own := [("place", 2), ("row", 3)]) (N := ["there", "rows", "place", "row"]) (sc := defScope s_positions) (by decide +kernel)) (fun _ _ _ _ _ => (pg_tup rfl (pgs_cons (pg_name (i := 2) sc_positions.nd rfl (by first | exact Or.inl rfl | exact Or.inr rfl)) (pgs_cons (pg_name (i := 3) sc_positions.nd rfl (by first | exact Or.inl rfl | exact Or.inr rfl)) pgs_nil)))) (fun _ _ _ _ _ => (pts_one (pt_cmpR (opK (r := fun K => rIn K false) (K := K) (by rfl) op_in_seq) (pv 3) (pv 1) (by rfl)))) (fun _ _ _ _ _ => (pv 2)))))), ?_⟩
    refine ⟨_, rfl, a, ns, rfl, ha, nd, hl, ?_⟩
    refine ⟨_, rfl, a, _, rfl, ha, fun D hD => lc_it (walk_enum (K := K) (a := a) (xs := ns.map V.int)) (fun i H' => Ex H H' ∧ H' D = some (.lst ((((List.range i).filter fun i => decide (ns.getD i 0 ∈ rows)).map fun i => ((i : Nat) : Int)).map V.int))) ⟨Evl.Ex.new hD, upd_same⟩ (fun i H' _ z => Evl.ex_l z.1 ha) ?_ ?_⟩
    · rintro i v H2 H3 hi ⟨e2, d2⟩ ⟨q, x, y, rfl, nq, rfl, hx, hy⟩
      obtain ⟨t, ht, rfl⟩ := mapI_get hy
      cases hx
      have e3 : Ex H2 (upd H2 q (.tup [.int (i : Nat), .int t])) := Evl.Ex.new nq
      have hp : upd H2 q (.tup [.int (i : Nat), .int t]) q = some (.tup [.int (i : Nat), .int t]) := upd_same
      generalize upd H2 q (.tup [.int (i : Nat), .int t]) = H4 at e3 hp ⊢
      have ge : ns.getD i 0 = t := by rw [List.getD_eq_getElem?_getD, ht]; rfl
      rw [List.length_map] at hi
      refine ⟨_, _, rfl, sqT hp, rfl, _, _, rfl, _, _, rfl, rfl, rfl, ?_⟩
      refine ⟨_, rfl, _, rfl, b, _, rfl, .inl (Evl.ex_l (e2.trans e3) hb), rfl, flatI rows, _, rfl, ?_⟩
      show if inV (V.int t) (rows.map V.int) = true then _ else _
      rw [inV_int, List.range_succ, List.filter_append]
      refine ifB (fun c => ?_) (fun c => ?_)
      · refine ⟨_, rfl, _, e3 _ _ d2, ?_, Evl.Ex.mut (e2.trans e3) hD, ?_⟩
        · rw [List.length_map, List.length_map]
          refine Nat.lt_of_le_of_lt (List.length_filter_le _ _) ?_
          rw [List.length_range]
          exact Nat.lt_of_lt_of_le (show i < 1000 by omega) (by decide)
        · rw [upd_same, List.filter_cons, ge, c, List.map_append, List.map_append]
          rfl
      · refine ⟨e2.trans e3, ?_⟩
        rw [List.filter_cons, ge, c, e3 _ _ d2]
        simp
    · rintro H2 ⟨e2, d2⟩
      rw [List.length_map] at d2
      exact k D H2 hD e2 d2
theorem ok_anchor_after (T : Txt K mg) : FnOk PR w K mg base (L2.CX PR w) 4 T.a_anchor_after T.d_anchor_after ["there", "anchor", "clicks"] (sp_anchor_after K) := by
  refine T.f_anchor_after.okX sc_anchor_after (fun vs H Q E h => ?_) (fun cdv A outer s H vs Q E hr h => ?_)
  · obtain ⟨a, b, ns, xs, cs, an, rfl, _⟩ := h
    rfl
  · obtain ⟨a, b, ns, xs, cs, an, rfl, ha, hb, nd, hl, hc, ok, k⟩ := h
    refine ⟨_, (pss_cons (ps_expr (pe_call (ok_check_there T) (hr.mono (by decide)) (by rfl) T.g_check_there T.f_check_there.kp (b_check_there T) .nil passX (pa_cons (pv 0) pa_nil))) (pss_cons (ps_expr (pe_call (ok_check_clicks T) (hr.mono (by decide)) (by rfl) T.g_check_clicks T.f_check_clicks.kp (b_check_clicks T) .nil passX (pa_cons (pv 0) (pa_cons (pv 2) pa_nil)))) (pss_one (ps_ret (pe_ix ix_tup (pe_call (ok_marked_in T) (hr.mono (by decide)) (by rfl) T.g_marked_in T.f_marked_in.kp (b_marked_in T) .nil pass0 (pa_cons (pv 0) (pa_cons (pe_lstG pa_nil) (pa_cons (pv 1) (pa_cons (pv 2) pa_nil))))) pe_int (fun _ _ => rfl)))))), ?_⟩
    refine ⟨_, rfl, a, ns, rfl, ha, nd, hl, ?_⟩
    refine ⟨_, rfl, _, rfl, a, b, ns, xs, cs, rfl, ha, hb, hc, ok, fun H1 e1 => ?_⟩
    refine ⟨_, rfl, (by show 0 ≤ sizeLine; decide), fun p2 H2 n2 e2 h2 => ?_⟩
    have e12 := e1.trans e2
    refine ⟨_, rfl, _, rfl, a, p2, b, ns, [], xs, cs, an, rfl, Evl.ex_l e12 ha, sqI h2, Evl.ex_l e12 hb, nd, hl, by simp, by simp, hc.ex e12, ok, fun p q H3 rs np e3 npq nq h1 h4 h5 h6 h7 => ?_⟩
    exact ⟨_, _, _, _, rfl, rfl, sqT h1, at1, k _ (e12.trans e3)⟩
end
end K26
set_option Elab.async false
set_option linter.all false
set_option maxRecDepth 100000
set_option maxHeartbeats 4000000
/-! repr: how long what is shown can be; repr of any data without dicts. -/
namespace My
open PySem PySem.Spec PyProof.Rows L2
/-- data that can be shown, no deeper than n, in at most M signs -/
structure Shw (d : PyData) (n M : Nat) : Prop where
  sh : d.showable = true
  nd : d.hasDict = false
  dp : d.depth ≤ n
  ln : d.shown.length ≤ M
theorem Shw.mono {d : PyData} {n m M L : Nat} (h : Shw d n M) (h1 : n ≤ m) (h2 : M ≤ L) : Shw d m L := ⟨h.sh, h.nd, Nat.le_trans h.dp h1, Nat.le_trans h.ln h2⟩
theorem log_of {i : Int} (h : i.natAbs < 2 ^ 1900) : i.natAbs.log2 < 1920 := by
  have := PySem.Flt.log2_lt_of (k := 1900) (by decide) h
  omega
theorem Shw.int {i : Int} (h : i.natAbs.log2 < 1920) : Shw (.int i) 0 1921 := ⟨decide_eq_true h, rfl, Nat.le_refl _, by
  show (Str.ofString (toString i)).length ≤ 1921
  rw [PySem.ofString_length]
  exact int_text_length_le (k := 1920) (by decide) h⟩
theorem Shw.none : Shw .none 0 4 := ⟨rfl, rfl, Nat.le_refl _, by decide⟩
theorem Shw.bool (b : Bool) : Shw (.bool b) 0 5 := ⟨rfl, rfl, Nat.le_refl _, by cases b <;> decide⟩
theorem textFrom_le : ∀ (ts : List Str) (k : Nat) (acc : Str), (textFrom k acc ts).length ≤ acc.length + piled ts
  | [], k, acc => by
    show acc.length ≤ acc.length + piled []
    omega
  | t :: r, k, acc => by
    have ih := textFrom_le r (k + 1) (acc ++ (if k > 0 then ", " else "" : String) ++ t)
    have l2 : (if k > 0 then 2 else 0) ≤ 2 := by split <;> omega
    have e : (acc ++ (if k > 0 then ", " else "" : String) ++ t).length = acc.length + (if k > 0 then 2 else 0) + t.length := by
      rw [Str.length_append, Str.length_append]
      split <;> rfl
    rw [e] at ih
    show (textFrom (k + 1) (acc ++ (if k > 0 then ", " else "" : String) ++ t) r).length ≤ _
    rw [piled_cons]
    omega
theorem piled_le {M : Nat} : ∀ ts : List Str, (∀ t ∈ ts, t.length ≤ M) → piled ts ≤ ts.length * (M + 2)
  | [], _ => Nat.zero_le _
  | t :: r, h => by
    have ih := piled_le r fun x hx => h x (List.mem_cons_of_mem _ hx)
    have := h t List.mem_cons_self
    rw [piled_cons, List.length_cons, Nat.succ_mul]
    omega
theorem all_of {n M : Nat} : ∀ {xs : List PyData}, (∀ x ∈ xs, Shw x n M) → PyData.showableAll xs = true ∧ PyData.hasDictAll xs = false ∧ PyData.depthAll xs ≤ n ∧ (PyData.shownAll xs).length = xs.length ∧ ∀ t ∈ PyData.shownAll xs, t.length ≤ M
  | [], _ => ⟨rfl, rfl, Nat.zero_le _, rfl, fun t ht => by cases ht⟩
  | x :: xs, h => by
    obtain ⟨h1, h2, h3, h4, h5⟩ := all_of (xs := xs) fun y hy => h y (List.mem_cons_of_mem _ hy)
    have hx := h x List.mem_cons_self
    refine ⟨?_, ?_, ?_, ?_, fun t ht => ?_⟩
    · show (PyData.showable x && PyData.showableAll xs) = true
      rw [hx.sh, h1]
      rfl
    · show (PyData.hasDict x || PyData.hasDictAll xs) = false
      rw [hx.nd, h2]
      rfl
    · exact Nat.max_le.mpr ⟨hx.dp, h3⟩
    · show (PyData.shownAll xs).length + 1 = xs.length + 1
      rw [h4]
    · rcases List.mem_cons.mp (show t ∈ PyData.shown x :: PyData.shownAll xs from ht) with z | z
      · rw [z]
        exact hx.ln
      · exact h5 t z
theorem Shw.list {n M : Nat} {xs : List PyData} (h : ∀ x ∈ xs, Shw x n M) : Shw (.list xs) (n + 1) (2 + xs.length * (M + 2)) := by
  obtain ⟨h1, h2, h3, h4, h5⟩ := all_of h
  refine ⟨h1, h2, by show PyData.depthAll xs + 1 ≤ n + 1; omega, ?_⟩
  show (textFrom 0 "[" (PyData.shownAll xs) ++ ("]" : Str)).length ≤ _
  have a := textFrom_le (PyData.shownAll xs) 0 "["
  have b := piled_le _ h5
  have e1 : ((("[" : String) : Str)).length = 1 := rfl
  have e2 : ((("]" : String) : Str)).length = 1 := rfl
  rw [Str.length_append, e2]
  rw [e1] at a
  rw [h4] at b
  omega
theorem Shw.tuple {n M : Nat} {xs : List PyData} (h : ∀ x ∈ xs, Shw x n M) : Shw (.tuple xs) (n + 1) (3 + xs.length * (M + 2)) := by
  obtain ⟨h1, h2, h3, h4, h5⟩ := all_of h
  refine ⟨h1, h2, by show PyData.depthAll xs + 1 ≤ n + 1; omega, ?_⟩
  show (tupleText (PyData.shownAll xs)).length ≤ _
  have b := piled_le _ h5
  unfold tupleText
  rw [Str.length_append, Str.length_append]
  have e1 : ((("(" : String) : Str)).length = 1 := rfl
  have e3 : (((if (PyData.shownAll xs).length == 1 then ",)" else ")" : String) : Str)).length ≤ 2 := by split <;> decide
  rw [e1]
  rw [h4] at b
  by_cases z : PyData.shownAll xs = []
  · rw [z] at e3 ⊢
    have : (Str.join ", " ([] : List Str)).length = 0 := rfl
    omega
  · have := join_length_add _ z
    omega
/-- ints within some bits -/
def Bd (b : Nat) (ns : List Int) : Prop := ∀ n ∈ ns, n.natAbs < 2 ^ b
theorem Shw.ints {b : Nat} {ns : List Int} (hb : b ≤ 1900) (h : Bd b ns) : Shw (eL PyData.int ns) 1 (2 + ns.length * 1923) := by
  have := Shw.list (n := 0) (M := 1921) (xs := ns.map PyData.int) fun x hx => by
    obtain ⟨n, hn, rfl⟩ := List.mem_map.mp hx
    exact Shw.int (log_of (Nat.lt_of_lt_of_le (h n hn) (Nat.pow_le_pow_right (by decide) hb)))
  rw [List.length_map] at this
  exact this
section
variable {X : Cx}
/-- repr of any data without dicts -/
def rReprA (K : PySem.W.Frag) : List V → Hp → VK → Prop := fun vs H Q => ∃ (v : V) (d : PyData), vs = [v] ∧ Dp K H v d ∧ Shw d 60 sizeLine ∧ Q (.str d.shown) H
theorem cr_reprA (gd : X.A.guards = some []) (hu : X.A.units + 64 < cLine) : CallR X (.builtin "repr") (rReprA X.K) := by
  intro pins s σ H vs us Q I r h
  obtain ⟨v, d, rfl, hd, sw, q⟩ := h
  obtain ⟨u, rfl, ru⟩ := vals1 r
  cases hd with
  | non =>
    cases ru
    exact PySem.P.repr_of_none ⟨.str _, H, I.tok _, ⟨_, rfl⟩, q⟩
  | bl b =>
    cases ru
    exact PySem.P.repr_of_bool ⟨.str _, H, I.tok _, ⟨_, rfl⟩, q⟩
  | int i =>
    obtain ⟨t, rfl⟩ := ru
    exact PySem.P.repr_of_int (of_decide_eq_true sw.sh) ⟨.str _, H, I.tok _, ⟨_, rfl⟩, q⟩
  | str x =>
    obtain ⟨t, rfl⟩ := ru
    exact PySem.P.repr_of_str ⟨.str _, H, I.tok _, ⟨_, rfl⟩, q⟩ sw.ln
  | lst h1 h2 => exact cr_repr gd hu pins s σ H _ _ Q I r ⟨_, _, rfl, .lst h1 h2, sw.sh, sw.nd, sw.dp, sw.ln, ⟨_, rfl⟩, q⟩
  | tup h1 h2 => exact cr_repr gd hu pins s σ H _ _ Q I r ⟨_, _, rfl, .tup h1 h2, sw.sh, sw.nd, sw.dp, sw.ln, ⟨_, rfl⟩, q⟩
end
end My
set_option Elab.async false
set_option linter.all false
set_option maxRecDepth 100000
set_option maxHeartbeats 4000000
namespace K26
open PySem L2 My
/-! ### the source -/
/-- a source of draws stands at j, of which at most B were mixed -/
def Jug (H : Hp) (j : Addr) (B : Int) : Prop := ∃ x y z : Int, H j = some (.lst [.int x, .int y, .int z]) ∧ 0 ≤ y ∧ y < 2 ^ 200 ∧ 0 ≤ z ∧ z ≤ B
theorem Jug.ex {H H' : Hp} {j : Addr} {B : Int} (e : Ex H H') : Jug H j B → Jug H' j B
  | ⟨x, y, z, h, r⟩ => ⟨x, y, z, e _ _ h, r⟩
theorem Jug.mono {H : Hp} {j : Addr} {B B' : Int} (h : B ≤ B') : Jug H j B → Jug H j B'
  | ⟨x, y, z, h1, h2, h3, h4, h5⟩ => ⟨x, y, z, h1, h2, h3, h4, by omega⟩
theorem Jug.some {H : Hp} {j : Addr} {B : Int} : Jug H j B → ∃ o, H j = some o
  | ⟨_, _, _, h, _⟩ => ⟨_, h⟩
theorem Jug.ne {H : Hp} {j p : Addr} {B : Int} (h : Jug H j B) (n : H p = none) : p ≠ j := by
  obtain ⟨o, ho⟩ := h.some
  exact (ne_of_none ho n).symm
theorem Jug.upd {H : Hp} {j p : Addr} {B : Int} {o : HO} (n : p ≠ j) : Jug H j B → Jug (upd H p o) j B
  | ⟨x, y, z, h, r⟩ => ⟨x, y, z, by rw [upd_ne n.symm]; exact h, r⟩
theorem _root_.My.Exj.back {j p : Addr} {H H' : Hp} (e : Exj j H H') (n : p ≠ j) (h : H' p = none) : H p = none := by
  cases q : H p with
  | none => rfl
  | some o =>
    rw [e p o n q] at h
    cases h
theorem mix_lt {m z : Int} (h0 : 0 ≤ m) (h1 : m < 2 ^ 200) (z0 : 0 ≤ z) (z1 : z ≤ 2 ^ 60) : (m + 32452843 * (z + 1)).natAbs < 2 ^ 210 := by omega
def sp__law_draw : Sp := fun vs H Q _ => ∃ (j : Addr) (many B : Int), vs = [.ref j, .int many] ∧ Jug H j B ∧ B ≤ 2 ^ 60 ∧ 0 < many ∧ many < 2 ^ 200 ∧
  ∀ (n : Int) (H' : Hp), 0 ≤ n → n < many → Exj j H H' → Jug H' j (B + 1) → Q (.int n) H'
def sp__law_source (K : PySem.W.Frag) : Sp := fun vs H Q _ => ∃ (a : Addr) (ns : List Int) (k : Int), vs = [.ref a, .int k] ∧ SqL K H a (ns.map V.int) ∧ 0 ≤ k ∧ k ≤ 100 ∧ ∀ (p : Addr) (H' : Hp), H p = none → Ex H H' → Jug H' p 0 → Q (.ref p) H'
section
variable {P : Program} {w : World} {K : PySem.W.Frag} {mg : Str → Option Value} {base : Heap}
theorem ok__law_draw (T : Txt K mg) : FnOk P w K mg base CX0 1 T.a__law_draw T.d__law_draw ["_law_source_here", "_law_bound"] sp__law_draw := by
  refine T.f__law_draw.ok sc__law_draw (fun vs H Q E h => ?_) (fun cdv A outer s H vs Q E hr h => ?_)
  · obtain ⟨j, many, B, rfl, _⟩ := h
    rfl
  · obtain ⟨j, many, B, rfl, ⟨x, y, z, hj, y0, y1, z0, z1⟩, hB, m0, m1, k⟩ := h
    refine ⟨_, (pss_cons (ps_if (pt_cmpR op_gt (pe_ix ix_list (pv 0) pe_int (fun _ _ => rfl)) pe_int (nomark _)) (pss_cons (ps_set (i := 2) sc__law_draw.nd rfl (by first | exact Or.inl rfl | exact Or.inr rfl) (pe_op op_mod (pe_callTy call_int1 (by rfl) T.z_int (by decide +kernel) (pa_cons (pe_ix ix_list (pv 0) pe_int (fun _ _ => rfl)) pa_nil)) (pv 1))) (pss_cons (ps_asg (pe_op op_fdivW (pe_ix ix_list (pv 0) pe_int (fun _ _ => rfl)) (pv 1)) (pg_sub (pv 0) pe_int set_list)) (pss_one (ps_ret (pv 2))))) pss_nil) (pss_cons (ps_asg (pe_op op_add (pe_ix ix_list (pv 0) pe_int (fun _ _ => rfl)) pe_int) (pg_sub (pv 0) pe_int set_list)) (pss_cons (ps_set (i := 3) sc__law_draw.nd rfl (by first | exact Or.inl rfl | exact Or.inr rfl) (pe_op op_mod (pe_callTy call_int1 (by rfl) T.z_int (by decide +kernel) (pa_cons (pe_op op_powW (pe_op op_add (pe_ix ix_list (pv 0) pe_int (fun _ _ => rfl)) (pe_op op_mulW pe_int (pe_ix ix_list (pv 0) pe_int (fun _ _ => rfl)))) pe_int) pa_nil)) (pe_op op_add (pe_op op_powW pe_int pe_int) pe_int))) (pss_cons (ps_set (i := 3) sc__law_draw.nd rfl (by first | exact Or.inl rfl | exact Or.inr rfl) (pe_op op_mod (pe_callTy call_int1 (by rfl) T.z_int (by decide +kernel) (pa_cons (pe_op op_powW (pe_op op_add (pv 3) (pe_op op_mulW pe_int (pe_ix ix_list (pv 0) pe_int (fun _ _ => rfl)))) pe_int) pa_nil)) (pe_op op_add (pe_op op_powW pe_int pe_int) pe_int))) (pss_one (ps_ret (pe_op op_mod (pe_op op_fdivW (pe_callTy call_int1 (by rfl) T.z_int (by decide +kernel) (pa_cons (pv 3) pa_nil)) pe_int) (pv 1)))))))), ?_⟩
    have sq : ∀ {H' : Hp} {l : List V}, H' j = some (.lst l) → SqL K H' j l := fun h => sqI h
    have m2 : many.natAbs < 2 ^ 200 := by omega
    refine ⟨_, rfl, _, _, _, _, rfl, rfl, sq hj, at0, _, _, rfl, rfl, _, rfl, ?_⟩
    refine ite2 (fun c => ?_) (fun c => ?_)
    · refine ⟨_, rfl, _, _, _, _, rfl, rfl, sq hj, at0, .inl ⟨_, rfl, ?_⟩⟩
      refine ⟨_, rfl, _, _, rfl, rfl, m0, ?_⟩
      refine ⟨_, rfl, _, _, _, _, rfl, rfl, sq hj, at0, _, rfl, _, _, rfl, rfl, wide_div m0 m2 (by decide) (by decide), _, rfl, _, _, _, _, rfl, rfl, hj, (show _ = some 0 from rfl), ?_⟩
      refine ⟨_, rfl, ?_⟩
      exact k _ _ (Int.emod_nonneg _ (by omega)) (Int.emod_lt_of_pos _ m0) (Exj.refl _ _).upd ⟨_, y, z, upd_same, y0, y1, z0, by omega⟩
    · refine ⟨_, rfl, _, _, _, _, rfl, rfl, sq hj, at2, _, _, rfl, rfl, _, rfl, _, _, _, _, rfl, rfl, hj, (show _ = some 2 from rfl), ?_⟩
      have hj1 : L2.upd H j (.lst [.int x, .int y, .int (z + 1)]) j = some (.lst [.int x, .int y, .int (z + 1)]) := upd_same
      have ez : (z + 1).natAbs < 2 ^ 70 := by omega
      have b1 : (y + 15485863 * (z + 1)).natAbs < 2 ^ 210 := by omega
      refine ⟨_, rfl, _, _, _, _, rfl, rfl, sq hj1, at1, _, rfl, _, _, _, _, rfl, rfl, sq hj1, at2, _, _, rfl, rfl, wide_mul (a := 30) (b := 70) (by decide) ez (by decide) (by decide) (by decide), _, _, rfl, rfl, _, _, rfl, rfl, powW_of (j := 3) b1 (by decide) (by decide), .inl ⟨_, rfl, ?_⟩⟩
      refine ⟨_, _, rfl, rfl, (show CPowW 10 35 by constructor <;> decide +kernel), _, _, rfl, rfl, _, _, rfl, rfl, (show (0 : Int) < 10 ^ (35 : Int).toNat + 69 by decide +kernel), ?_⟩
      have q0 := Int.emod_nonneg ((y + 15485863 * (z + 1)) ^ (3 : Int).toNat) (show ((10 : Int) ^ (35 : Int).toNat + 69) ≠ 0 by decide +kernel)
      have q1 := Int.emod_lt_of_pos ((y + 15485863 * (z + 1)) ^ (3 : Int).toNat) (show 0 < ((10 : Int) ^ (35 : Int).toNat + 69) by decide +kernel)
      have q2 : ((10 : Int) ^ (35 : Int).toNat + 69) < 2 ^ 200 := by decide +kernel
      have b2 := mix_lt (z := z) q0 (Int.lt_trans q1 q2) z0 (Int.le_trans z1 hB)
      refine ⟨_, rfl, _, rfl, _, _, _, _, rfl, rfl, sq hj1, at2, _, _, rfl, rfl, wide_mul (a := 30) (b := 70) (by decide) ez (by decide) (by decide) (by decide), _, _, rfl, rfl, _, _, rfl, rfl, powW_of (j := 3) b2 (by decide) (by decide), .inl ⟨_, rfl, ?_⟩⟩
      refine ⟨_, _, rfl, rfl, (show CPowW 10 32 by constructor <;> decide +kernel), _, _, rfl, rfl, _, _, rfl, rfl, (show (0 : Int) < 10 ^ (32 : Int).toNat + 49 by decide +kernel), ?_⟩
      refine ⟨_, rfl, .inl ⟨_, rfl, _, _, rfl, rfl, wide_div (b := 40) (by decide) (by decide) (by decide) (by decide), _, rfl, _, _, rfl, rfl, m0, ?_⟩⟩
      exact k _ _ (Int.emod_nonneg _ (by omega)) (Int.emod_lt_of_pos _ m0) (Exj.refl _ _).upd ⟨x, y, z + 1, upd_same, y0, y1, by omega, by omega⟩
theorem ok__law_source (T : Txt K mg) : FnOk P w K mg base CX0 1 T.a__law_source T.d__law_source ["_law_script", "_law_index"] (sp__law_source K) := by
  refine T.f__law_source.ok sc__law_source (fun vs H Q E h => ?_) (fun cdv A outer s H vs Q E hr h => ?_)
  · obtain ⟨a, ns, k, rfl, _⟩ := h
    rfl
  · obtain ⟨a, ns, n, rfl, hs, n0, n1, k⟩ := h
    refine ⟨_, (pss_cons (ps_set (i := 2) sc__law_source.nd rfl (by first | exact Or.inl rfl | exact Or.inr rfl) pe_int) (pss_cons (ps_cut (ps_if (pt_cmpR op_lt (pv 1) (pe_callB call_len_seq (by rfl) T.z_len PySem.boot_len (pa_cons (pv 0) pa_nil)) (nomark _)) (pss_one (ps_set (i := 2) sc__law_source.nd rfl (by first | exact Or.inl rfl | exact Or.inr rfl) (pe_ix ix_list (pv 0) (pv 1) (fun _ _ => rfl)))) pss_nil)) (pss_one (ps_ret (pe_lstG (pa_cons (pe_callB (call_max2 rfl) (by rfl) T.z_max (by decide +kernel) (pa_cons pe_int (pa_cons (pe_op op_sub (pv 2) (pe_op op_powW pe_int pe_int)) pa_nil))) (pa_cons (pe_op op_add (pe_op op_mod (pe_callTy call_int1 (by rfl) T.z_int (by decide +kernel) (pa_cons (pv 2) pa_nil)) (pe_op op_add (pe_op op_powW pe_int pe_int) pe_int)) (pe_op op_mulW pe_int (pv 1))) (pa_cons pe_int pa_nil)))))))), ?_⟩
    refine ⟨fun σ H' => H' = H ∧ ∃ c : Int, σ = [Option.some (.ref a), Option.some (.int n), Option.some (.int c)], ?_, ?_⟩
    · refine ⟨_, rfl, _, rfl, _, _, rfl, .inl hs, _, _, rfl, rfl, _, rfl, ?_⟩
      refine ifB (fun c => ?_) (fun c => ⟨rfl, _, rfl⟩)
      have c' : n < ((ns.map V.int).length : Int) := of_decide_eq_true c
      rw [List.length_map] at c'
      have hx : ns[n.toNat]? = Option.some (ns[n.toNat]'(by omega)) := List.getElem?_eq_getElem (by omega)
      exact ⟨_, rfl, _, rfl, _, _, _, _, rfl, rfl, hs, at_of (j := n.toNat) (by omega) (by rw [List.getElem?_map, hx]; rfl), rfl, _, rfl⟩
    · rintro σ H' ⟨rfl, c, rfl⟩
      have q0 := Int.emod_nonneg c (show ((10 : Int) ^ (37 : Int).toNat + 43) ≠ 0 by decide +kernel)
      have q1 := Int.emod_lt_of_pos c (show 0 < ((10 : Int) ^ (37 : Int).toNat + 43) by decide +kernel)
      have q2 : ((10 : Int) ^ (37 : Int).toNat + 43) < 2 ^ 140 := by decide +kernel
      refine ⟨_, rfl, _, _, rfl, rfl, (show CPowW 10 18 by constructor <;> decide +kernel), _, _, rfl, rfl, _, _, rfl, ?_⟩
      refine ⟨_, rfl, .inl ⟨_, rfl, _, _, rfl, rfl, (show CPowW 10 37 by constructor <;> decide +kernel), _, _, rfl, rfl, _, _, rfl, rfl, (show (0 : Int) < 10 ^ (37 : Int).toNat + 43 by decide +kernel), _, rfl, _, _, rfl, rfl, wide_mul (a := 30) (b := 10) (by decide) (by omega) (by decide) (by decide) (by decide), _, _, rfl, rfl, (by show 3 ≤ sizeLine; decide), fun p1 H1 n1 e1 h1 => ?_⟩⟩
      refine k p1 H1 n1 e1 ⟨_, _, _, h1, ?_, ?_, Int.le_refl _, Int.le_refl _⟩
      · show 0 ≤ c % ((10 : Int) ^ (37 : Int).toNat + 43) + 1299709 * n
        omega
      · show c % ((10 : Int) ^ (37 : Int).toNat + 43) + 1299709 * n < 2 ^ 200
        have := Int.lt_trans q1 q2
        generalize c % ((10 : Int) ^ (37 : Int).toNat + 43) = d at q0 this ⊢
        omega
end
end K26
set_option Elab.async false
set_option linter.all false
set_option maxRecDepth 100000
set_option maxHeartbeats 4000000
namespace K26
open PySem L2 My
/-- clicks that stand in the heap -/
def ClsH (H : Hp) (vs : List V) (cs : List Cl) : Prop := vs.length = cs.length ∧ ∀ (i : Nat) v c, vs[i]? = some v → cs[i]? = some c → ∃ q, v = .ref q ∧ H q = some (.tup [.str c.1, .int c.2])
theorem ClsH.cls {K : PySem.W.Frag} {H : Hp} {vs : List V} {cs : List Cl} (h : ClsH H vs cs) : Cls K H vs cs := ⟨h.1, fun i v c h1 h2 => let ⟨q, e1, e2⟩ := h.2 i v c h1 h2; ⟨q, e1, sqT e2⟩⟩
theorem ClsH.ex {H H' : Hp} {vs : List V} {cs : List Cl} (e : Ex H H') (h : ClsH H vs cs) : ClsH H' vs cs := ⟨h.1, fun i v c h1 h2 => let ⟨q, e1, e2⟩ := h.2 i v c h1 h2; ⟨q, e1, e _ _ e2⟩⟩
theorem ClsH.exj {H H' : Hp} {j : Addr} {B : Int} {vs : List V} {cs : List Cl} (e : Exj j H H') (hj : Jug H j B) (h : ClsH H vs cs) : ClsH H' vs cs := ⟨h.1, fun i v c h1 h2 => by
  obtain ⟨q, e1, e2⟩ := h.2 i v c h1 h2
  obtain ⟨x, y, z, hj, _⟩ := hj
  exact ⟨q, e1, e _ _ (fun z => by rw [z, hj] at e2; cases e2) e2⟩⟩
theorem ClsH.snoc {H : Hp} {vs : List V} {cs : List Cl} (h : ClsH H vs cs) {q : Addr} {c : Cl} (hq : H q = some (.tup [.str c.1, .int c.2])) : ClsH H (vs ++ [.ref q]) (cs ++ [c]) := by
  refine ⟨by simp [h.1], fun i v d h1 h2 => ?_⟩
  by_cases z : i < vs.length
  · rw [List.getElem?_append_left z] at h1
    rw [List.getElem?_append_left (by rw [← h.1]; exact z)] at h2
    exact h.2 i v d h1 h2
  · rw [List.getElem?_append_right (by omega)] at h1
    rw [List.getElem?_append_right (by rw [← h.1]; omega), ← h.1] at h2
    cases q : i - vs.length with
    | zero =>
      rw [q] at h1 h2
      cases h1
      cases h2
      exact ⟨_, rfl, hq⟩
    | succ n =>
      rw [q] at h1
      cases h1
theorem ClsH.take {H : Hp} {vs : List V} {cs : List Cl} (h : ClsH H vs cs) (n : Nat) : ClsH H (vs.take n) (cs.take n) := by
  refine ⟨by simp [h.1], fun i v d h1 h2 => ?_⟩
  rw [List.getElem?_take] at h1 h2
  split at h1
  · rename_i z
    rw [if_pos z] at h2
    exact h.2 i v d h1 h2
  · cases h1
theorem ClsH.drop {H : Hp} {vs : List V} {cs : List Cl} (h : ClsH H vs cs) (n : Nat) : ClsH H (vs.drop n) (cs.drop n) := by
  refine ⟨by simp [h.1], fun i v d h1 h2 => ?_⟩
  rw [List.getElem?_drop] at h1 h2
  exact h.2 _ v d h1 h2
def sp__law_some (K : PySem.W.Frag) : Sp := fun vs H Q _ => ∃ (j t : Addr) (size B : Int) (ns : List Int), vs = [.ref j, .ref t, .int size] ∧ Jug H j B ∧ B ≤ 2 ^ 50 ∧ SqL K H t (ns.map V.int) ∧ ns.length ≤ 100 ∧ 0 ≤ size ∧ size ≤ 1000 ∧
  ∀ (p : Addr) (H' : Hp) (ts ls : List Int), H p = none → Exj j H H' → p ≠ j → Jug H' j (B + 100) → H' p = some (.lst (ts.map V.int)) → (ts ++ ls).Perm ns → (ts.length : Int) = min size ns.length → Q (.ref p) H'
def sp__law_clicks : Sp := fun vs H Q _ => ∃ (j : Addr) (size many B : Int), vs = [.ref j, .int size, .int many] ∧ Jug H j B ∧ B ≤ 2 ^ 50 ∧ 0 ≤ size ∧ size ≤ 1000 ∧ 0 ≤ many ∧ many ≤ 100 ∧
  ∀ (p : Addr) (H' : Hp) (xs : List V) (cs : List Cl), H p = none → Exj j H H' → p ≠ j → Jug H' j (B + 500) → H' p = some (.lst xs) → ClsH H' xs cs → ClOk size.toNat cs → cs.length ≤ 100 → Q (.ref p) H'
section
variable {P : Program} {w : World} {K : PySem.W.Frag} {mg : Str → Option Value} {base : Heap}
theorem erase_perm {α : Type} : ∀ {ls : List α} {k : Nat} {y : α}, ls[k]? = some y → (y :: ls.eraseIdx k).Perm ls
  | a :: ls, 0, y, h => by
    cases h
    exact List.Perm.refl _
  | a :: ls, k + 1, y, h => by
    have ih := erase_perm (ls := ls) (k := k) (y := y) h
    show (y :: a :: ls.eraseIdx k).Perm (a :: ls)
    exact (List.Perm.swap a y _).trans (ih.cons a)
theorem map_erase {α β : Type} (f : α → β) : ∀ (l : List α) (k : Nat), (l.map f).eraseIdx k = (l.eraseIdx k).map f
  | [], _ => rfl
  | _ :: _, 0 => rfl
  | a :: l, k + 1 => by
    show f a :: (l.map f).eraseIdx k = f a :: (l.eraseIdx k).map f
    rw [map_erase f l k]
theorem ok__law_some (T : Txt K mg) : FnOk P w K mg base CX0 2 T.a__law_some T.d__law_some ["_law_source_here", "_law_things", "_law_size"] (sp__law_some K) := by
  refine T.f__law_some.ok sc__law_some (fun vs H Q E h => ?_) (fun cdv A outer s H vs Q E hr h => ?_)
  · obtain ⟨j, t, size, B, ns, rfl, _⟩ := h
    rfl
  · obtain ⟨j, t, size, B, ns, rfl, hj, hB, ht, hl, s0, s1, k⟩ := h
    refine ⟨_, (pss_cons (ps_set (i := 3) sc__law_some.nd rfl (by first | exact Or.inl rfl | exact Or.inr rfl) (pe_callTy call_listG (by rfl) T.z_list (by decide +kernel) (pa_cons (pv 1) pa_nil))) (pss_one (ps_ret (pe_lc (own := [("_law_step", 4)]) (g := gName 4) (by rfl) sc__law_some.nd (pi_range1 (by rfl) T.z_range (pa_cons (pe_callB (call_min2 rfl) (by rfl) T.z_min (by decide +kernel) (pa_cons (pv 2) (pa_cons (pe_callB call_len_seq (by rfl) T.z_len PySem.boot_len (pa_cons (pv 3) pa_nil)) pa_nil))) pa_nil)) (blkOk_by (own := [("_law_step", 4)]) (N := ["_law_source_here", "_law_things", "_law_size", "_law_left", "_law_step"]) (sc := defScope s__law_some) (by decide +kernel)) (fun _ _ _ _ _ => (pg_name (i := 4) sc__law_some.nd rfl (by first | exact Or.inl rfl | exact Or.inr rfl))) (fun _ _ _ _ _ => pts_nil) (fun _ _ _ _ _ => (peBMK (K := K) (by rfl) (pe_bm PySem.F.plainAttrs_list PySem.F.slot_list_pop PySem.F.type_list_pop mt_popAt (pv 3) (pa_cons (pe_call (ok__law_draw T) (hr.mono (by decide)) (by rfl) T.g__law_draw T.f__law_draw.kp (b__law_draw T) .nil pass0 (pa_cons (pv 0) (pa_cons (pe_callB (crK (r := rLenSq) (K := K) (by rfl) call_len_seq) (by rfl) T.z_len PySem.boot_len (pa_cons (pv 3) pa_nil)) pa_nil))) pa_nil)))))))), ?_⟩
    refine ⟨_, rfl, _, _, rfl, .inl ht, fun L H1 n1 e1 h1 => ?_⟩
    have nL : L ≠ j := hj.ne n1
    refine ⟨_, rfl, _, rfl, _, _, rfl, .inl (sqI h1), _, _, rfl, ?_⟩
    have em : (if ((ns.map V.int).length : Int) < size then ((ns.map V.int).length : Int) else size) = ((min size.toNat ns.length : Nat) : Int) := by
      rw [List.length_map]
      split <;> omega
    rw [em]
    refine ⟨_, rfl, (by omega), (by omega), fun D hD => ?_⟩
    have nD : D ≠ j := (hj.ex e1).ne hD
    have nDL : D ≠ L := (ne_of_none h1 hD).symm
    refine lc_range (lo := 0) (n := (((min size.toNat ns.length : Nat) : Int)).toNat) (fun i H2 => ∃ ts ls : List Int, Exj j H H2 ∧ Jug H2 j (B + i) ∧ H2 L = some (.lst (ls.map V.int)) ∧ H2 D = some (.lst (ts.map V.int)) ∧ ts.length = i ∧ (ts ++ ls).Perm ns) ?_ ?_ ?_
    · exact ⟨[], ns, (Exj.of e1).new hD, ((hj.ex e1).upd nD).mono (by omega), by rw [upd_ne nDL.symm]; exact h1, upd_same, rfl, List.Perm.refl _⟩
    · rintro i H2 hi ⟨ts, ls, e2, j2, l2, d2, hti, pm⟩
      have hlen : ts.length + ls.length = ns.length := by rw [← List.length_append]; exact pm.length_eq
      have hi' : i < ns.length := by omega
      refine ⟨rfl, ?_⟩
      show _
      refine ⟨_, rfl, .inl ⟨rfl, _, sqI l2⟩, _, rfl, _, rfl, _, _, rfl, .inl (sqI l2), j, _, _, rfl, j2, by omega, ?_, ?_, fun n H3 k0 k1 e3 j3 => ?_⟩
      · rw [List.length_map]
        omega
      · rw [List.length_map]
        omega
      · rw [List.length_map] at k1
        have l3 := e3 _ _ nL l2
        have hy : ls[n.toNat]? = some (ls[n.toNat]'(by omega)) := List.getElem?_eq_getElem (by omega)
        refine ⟨_, _, _, n.toNat, _, rfl, rfl, l3, by omega, by omega, ?_, by rw [List.getElem?_map, hy]; rfl, ?_⟩
        · rw [List.length_map]
          exact seqIndex_of k0 k1
        · refine ⟨ts.map V.int, by rw [upd_ne nDL]; exact e3 _ _ nD d2, ?_, ?_⟩
          · rw [List.length_map, hti]
            exact Nat.lt_of_lt_of_le (show i < 100 by omega) (by decide)
          · refine ⟨ts ++ [ls[n.toNat]'(by omega)], ls.eraseIdx n.toNat, ?_, ?_, ?_, ?_, by simp [hti], ?_⟩
            · intro b o nb hb
              have hb1 := e1 b o hb
              rw [upd_ne (ne_of_none hb1 hD), upd_ne (ne_of_none hb n1)]
              exact e3 _ _ nb (e2 _ _ nb hb)
            · exact ((j3.upd nL).upd nD).mono (by omega)
            · rw [upd_ne nDL.symm, upd_same, map_erase]
            · rw [upd_same, List.map_append]
              rfl
            · refine List.Perm.trans ?_ pm
              rw [List.append_assoc]
              exact (erase_perm hy).append_left ts
    · rintro H2 ⟨ts, ls, e2, j2, l2, d2, hti, pm⟩
      refine k D H2 ts ls (Ex_back e1 hD) e2 nD (j2.mono (by omega)) d2 pm ?_
      rw [hti]
      omega
theorem ok__law_clicks (T : Txt K mg) : FnOk P w K mg base CX0 2 T.a__law_clicks T.d__law_clicks ["_law_source_here", "_law_size", "_law_many"] sp__law_clicks := by
  refine T.f__law_clicks.ok sc__law_clicks (fun vs H Q E h => ?_) (fun cdv A outer s H vs Q E hr h => ?_)
  · obtain ⟨j, size, many, B, rfl, _⟩ := h
    rfl
  · obtain ⟨j, size, many, B, rfl, hj, hB, s0, s1, m0, m1, k⟩ := h
    refine ⟨_, (pss_cons (ps_set (i := 3) sc__law_clicks.nd rfl (by first | exact Or.inl rfl | exact Or.inr rfl) (pe_lstG pa_nil)) (pss_cons (ps_for PassesOwn.never rfl (pi_range1 (by rfl) T.z_range (pa_cons (pe_op op_mulW (pe_call (ok__law_draw T) (hr.mono (by decide)) (by rfl) T.g__law_draw T.f__law_draw.kp (b__law_draw T) .nil pass0 (pa_cons (pv 0) (pa_cons (pe_op op_add (pv 2) pe_int) pa_nil))) (pe_callTy call_int1 (by rfl) T.z_int (by decide +kernel) (pa_cons (pe_cmpR op_gt (pv 1) pe_int (nomark _)) pa_nil))) pa_nil)) (pg_name (i := 4) sc__law_clicks.nd rfl (by first | exact Or.inl rfl | exact Or.inr rfl)) (pss_one (ps_expr (pe_bm PySem.F.plainAttrs_list PySem.F.slot_list_append PySem.F.type_list_append mt_append (pv 3) (pa_cons (pe_tupG (pa_cons (pe_ix ix_list (pe_lstG (pa_cons pe_str (pa_cons pe_str pa_nil))) (pe_call (ok__law_draw T) (hr.mono (by decide)) (by rfl) T.g__law_draw T.f__law_draw.kp (b__law_draw T) .nil pass0 (pa_cons (pv 0) (pa_cons pe_int pa_nil))) (fun _ _ => rfl)) (pa_cons (pe_call (ok__law_draw T) (hr.mono (by decide)) (by rfl) T.g__law_draw T.f__law_draw.kp (b__law_draw T) .nil pass0 (pa_cons (pv 0) (pa_cons (pv 1) pa_nil))) pa_nil))) pa_nil))))) (pss_one (ps_ret (pv 3))))), ?_⟩
    refine ⟨(by show 0 ≤ sizeLine; decide), fun p1 H1 n1 e1 h1 => ?_⟩
    have nP : p1 ≠ j := hj.ne n1
    refine ⟨_, rfl, _, rfl, _, _, rfl, rfl, j, _, _, rfl, hj.ex e1, by omega, by omega, by omega, fun n H2 n0 n2 e2 j2 => ?_⟩
    refine ⟨_, rfl, _, _, rfl, rfl, .inr ⟨_, rfl, ?_⟩⟩
    have eb : ∃ u : Int, (if decide (size > 0) = true then (1 : Int) else 0) = u ∧ 0 ≤ u ∧ u ≤ 1 ∧ (0 < u → 0 < size) := by
      by_cases z : size > 0
      · exact ⟨1, by simp [z], by omega, by omega, fun _ => z⟩
      · exact ⟨0, by simp [z], by omega, by omega, fun z => absurd z (by omega)⟩
    obtain ⟨u, eu, u0, u1, us⟩ := eb
    rw [eu]
    have en : ∃ m : Nat, n * u = (m : Int) ∧ m ≤ 100 ∧ (0 < m → 0 < size) := by
      rcases (show u = 0 ∨ u = 1 by omega) with z | z
      · exact ⟨0, by rw [z]; simp, by omega, fun h => absurd h (by omega)⟩
      · exact ⟨n.toNat, by rw [z]; omega, by omega, fun _ => us (by omega)⟩
    obtain ⟨m, em, ml, ms⟩ := en
    refine ⟨_, _, rfl, rfl, wide_mul (a := 30) (b := 30) (by omega) (by omega) (by decide) (by decide) (by decide), ?_⟩
    refine ⟨n * u, rfl, (by omega), (by omega), for_range (lo := 0) (n := (n * u).toNat) (fun i σ H3 => ∃ v4 xs cs, σ = [some (.ref j), some (.int size), some (.int many), some (.ref p1), v4] ∧ Exj j H H3 ∧ Jug H3 j (B + 1 + 2 * i) ∧ H3 p1 = some (.lst xs) ∧ ClsH H3 xs cs ∧ ClOk size.toNat cs ∧ cs.length = i) ?_ ?_ ?_⟩
    · exact ⟨_, [], [], rfl, (Exj.of e1).trans e2, j2.mono (by omega), e2 _ _ nP h1, ⟨rfl, fun i v c h => (by cases h)⟩, (fun c hc => (by cases hc)), rfl⟩
    · rintro i σ H3 hi ⟨v4, xs, cs, rfl, e3, j3, h3, c3, ok3, l3⟩
      refine ⟨_, rfl, .inl ⟨rfl, _, sqI h3⟩, (by show 2 ≤ sizeLine; decide), fun p4 H4 n4 e4 h4 => ?_⟩
      have nP4 : p4 ≠ j := j3.ne n4
      refine ⟨_, rfl, j, _, _, rfl, j3.ex e4, by omega, by decide, by decide, fun d H5 d0 d1 e5 j5 => ?_⟩
      have h5 := e5 _ _ nP4 h4
      have ea : ∃ wd : Str, atI [V.str "click", V.str "range"] d = some (.str wd) ∧ (wd = "click" ∨ wd = "range") := by
        rcases (show d = 0 ∨ d = 1 by omega) with z | z
        · exact ⟨_, by rw [z]; exact at0, .inl rfl⟩
        · exact ⟨_, by rw [z]; exact at1, .inr rfl⟩
      obtain ⟨wd, ea, wok⟩ := ea
      refine ⟨_, _, _, _, rfl, rfl, sqI h5, ea, ?_⟩
      refine ⟨_, rfl, _, rfl, j, _, _, rfl, j5, by omega, ms (by omega), by omega, fun pos H6 p0 p2 e6 j6 => ?_⟩
      refine ⟨(by show 2 ≤ sizeLine; decide), fun p7 H7 n7 e7 h7 => ?_⟩
      have x3 : H7 p1 = some (.lst xs) := e7 _ _ (e6 _ _ nP (e5 _ _ nP (e4 _ _ h3)))
      have c7 : ClsH H7 xs cs := (((c3.ex e4).exj e5 (j3.ex e4)).exj e6 j5).ex e7
      refine ⟨_, _, _, rfl, rfl, x3, ?_, ?_⟩
      · rw [c3.1, l3]
        exact Nat.lt_of_lt_of_le (show i < 200 by omega) (by decide)
      · have n17 : p7 ≠ p1 := fun z => by
          rw [z] at n7
          rw [e6 _ _ nP (e5 _ _ nP (e4 _ _ h3))] at n7
          cases n7
        have tup : ∀ {q : Addr} {ys : List V}, H7 q = some (.tup ys) → L2.upd H7 p1 (.lst (xs ++ [.ref p7])) q = some (.tup ys) := fun {q ys} hq => by
          rw [upd_ne (fun z => by rw [z, x3] at hq; cases hq)]
          exact hq
        have c8 : ClsH (L2.upd H7 p1 (.lst (xs ++ [.ref p7]))) xs cs := ⟨c7.1, fun i v c h1 h2 => let ⟨q, a1, a2⟩ := c7.2 i v c h1 h2; ⟨q, a1, tup a2⟩⟩
        refine ⟨_, xs ++ [.ref p7], cs ++ [(wd, pos)], rfl, ?_, ?_, upd_same, c8.snoc (tup h7), ?_, by simp [l3]⟩
        · intro b o nb hb
          rw [upd_ne (ne_of_none hb n1)]
          exact e7 _ _ (e6 _ _ nb (e5 _ _ nb (e4 _ _ (e3 _ _ nb hb))))
        · exact ((j6.ex e7).upd nP).mono (by omega)
        · intro c hc
          rcases List.mem_append.mp hc with z | z
          · exact ok3 c z
          · have : c = (wd, pos) := by simpa using z
            subst this
            exact ⟨wok, p0, by show pos < _; omega⟩
    · rintro σ H3 ⟨v4, xs, cs, rfl, e3, j3, h3, c3, ok3, l3⟩
      exact ⟨_, rfl, k p1 H3 xs cs n1 e3 nP (j3.mono (by omega)) h3 c3 ok3 (by omega)⟩
end
end K26
set_option Elab.async false
set_option linter.all false
set_option maxRecDepth 100000
set_option maxHeartbeats 4000000
namespace K26
open PySem L2 My
structure NdOk (f : Int → Bool) (dom ks : List Int) : Prop where
  nd : ks.Nodup
  is : ∀ r, r ∉ ks → f r = false
  dm : ∀ r ∈ ks, r ∈ dom
abbrev bb (f : Int → Bool) : Int → V := fun n => .bl (f n)
theorem putK_bb (f : Int → Bool) (k : Int) (b : Bool) (ks : List Int) : putK (kvsOf ks (bb f)) (Sum.inl k) (.bl b) = kvsOf (if k ∈ ks then ks else ks ++ [k]) (bb fun n => if n = k then b else f n) := by
  rw [putK_kvs]
  exact kvs_congr fun n _ => by
    show (if n = k then V.bl b else .bl (f n)) = .bl (if n = k then b else f n)
    split <;> rfl
theorem NdOk.put {f : Int → Bool} {dom ks : List Int} (h : NdOk f dom ks) {k : Int} (b : Bool) (hk : k ∈ dom) : NdOk (fun n => if n = k then b else f n) dom (if k ∈ ks then ks else ks ++ [k]) :=
  ⟨put_nodup h.nd k, fun r hr => by
    have z1 : r ∉ ks := fun z => hr (mem_put.mpr (.inl z))
    have z2 : ¬ r = k := fun z => hr (mem_put.mpr (.inr z))
    show (if r = k then b else f r) = false
    rw [if_neg z2]
    exact h.is r z1, fun r hr => by
    rcases mem_put.mp hr with z | z
    · exact h.dm r z
    · exact z ▸ hk⟩
theorem NdOk.get {f : Int → Bool} {dom ks : List Int} (h : NdOk f dom ks) (k : Int) : (valV (kvsOf ks (bb f)) (Sum.inl k)).getD (.bl false) = .bl (f k) := by
  rw [valV_kvs]
  by_cases z : k ∈ ks
  · rw [if_pos z]
    rfl
  · rw [if_neg z]
    show V.bl false = .bl (f k)
    rw [h.is k z]
theorem NdOk.big {f : Int → Bool} {ms ns ks : List Int} (h : NdOk f (ms ++ ns) ks) (h1 : ms.length ≤ 1000) (h2 : ns.length ≤ 1000) (g : Int → V) : (kvsOf ks g).length < sizeLine := by
  rw [kvs_len]
  have := nodup_len h.nd h.dm
  rw [List.length_append] at this
  exact Nat.lt_of_le_of_lt (show ks.length ≤ 2000 by omega) (by decide)
theorem merge_tt : ∀ (l done : List Int), (done ++ l).Nodup → mergeK (kvsOf done tt) (kvsOf l tt) = kvsOf (done ++ l) tt
  | [], done, _ => by
    rw [List.append_nil]
    rfl
  | x :: l, done, h => by
    show mergeK (putK (kvsOf done tt) (Sum.inl x) (.bl true)) (kvsOf l tt) = _
    have hx : x ∉ done := fun z => by
      have := (List.nodup_append.mp h).2.2 x z x List.mem_cons_self
      exact this rfl
    have e : putK (kvsOf done tt) (Sum.inl x) (.bl true) = kvsOf (done ++ [x]) tt := kvs_snoc done tt x hx
    have h' : (done ++ [x] ++ l).Nodup := by
      rw [List.append_assoc]
      exact h
    rw [e, merge_tt l (done ++ [x]) h', List.append_assoc]
    rfl
theorem span_get {ns : List Int} {a b i : Nat} (h : i < max a b + 1 - min a b) : (span ns a b)[i]? = ns[min a b + i]? := by
  unfold span
  rw [List.getElem?_take, if_pos h, List.getElem?_drop]
theorem span_len {ns : List Int} {a b : Nat} (ha : a < ns.length) (hb : b < ns.length) : (span ns a b).length = max a b + 1 - min a b := by
  unfold span
  rw [List.length_take, List.length_drop]
  omega
def sp__law_done (K : PySem.W.Frag) : Sp := fun vs H Q _ => ∃ (a m b : Addr) (ns ms : List Int) (xs : List V) (cs : List Cl) (an : Option Int), vs = [.ref a, .ref m, anV an, .ref b] ∧ SqL K H a (ns.map V.int) ∧ SqL K H m (ms.map V.int) ∧ SqL K H b xs ∧ ns.Nodup ∧ ns.length ≤ 1000 ∧ ms.Nodup ∧ ms.length ≤ 1000 ∧ Cls K H xs cs ∧ ClOk ns.length cs ∧
  ∀ (p q : Addr) (H' : Hp) (rs : List Int), H p = none → Ex H H' → p ≠ q → H q = none → H' q = some (.tup [.ref p, anV (done ns ms an cs).2]) → H' p = some (.lst (rs.map V.int)) → rs.Pairwise (· < ·) → (∀ r, r ∈ rs ↔ (done ns ms an cs).1 r = true) → (∀ r ∈ rs, r ∈ ms ++ ns) → Q (.ref q) H'
def DInv (a m b nd : Addr) (ns ms : List Int) (st : State) (H1 : Hp) (σ : L2.St) (H' : Hp) : Prop :=
  ∃ w5 w6 w7 w8 w9 w10 ks, σ = [some (.ref a), some (.ref m), some (anV st.2), some (.ref b), some (.ref nd), w5, w6, w7, w8, w9, w10] ∧ Ex H1 H' ∧ H' nd = some (.dK (kvsOf ks (bb st.1))) ∧ NdOk st.1 (ms ++ ns) ks
section
variable {P : Program} {w : World} {K : PySem.W.Frag} {mg : Str → Option Value} {base : Heap}
theorem ok__law_done (T : Txt K mg) : FnOk P w K mg base CX0 1 T.a__law_done T.d__law_done ["_law_there", "_law_marks", "_law_anchor_here", "_law_clicks_here"] (sp__law_done K) := by
  refine T.f__law_done.ok sc__law_done (fun vs H Q E h => ?_) (fun cdv A outer s H vs Q E hr h => ?_)
  · obtain ⟨a, m, b, ns, ms, xs, cs, an, rfl, _⟩ := h
    rfl
  · obtain ⟨a, m, b, ns, ms, xs, cs, an, rfl, ha, hm, hb, nd', hl, nm, hlm, hc, ok, k⟩ := h
    refine ⟨_, (pss_cons (ps_set (i := 4) sc__law_done.nd rfl (by first | exact Or.inl rfl | exact Or.inr rfl) (pe_callTy (call_dictP rfl) (by rfl) T.z_dict (by decide +kernel) (pa_cons (pe_lc (own := [("_law_row", 7)]) (g := gName 7) (by rfl) sc__law_done.nd (pi_list (pv 1)) (blkOk_by (own := [("_law_row", 7)]) (N := ["_law_there", "_law_marks", "_law_anchor_here", "_law_clicks_here", "_law_now", "_law_word", "_law_position", "_law_row", "_law_at", "_law_wanted", "_law_place"]) (sc := defScope s__law_done) (by decide +kernel)) (fun _ _ _ _ _ => (pg_name (i := 7) sc__law_done.nd rfl (by first | exact Or.inl rfl | exact Or.inr rfl))) (fun _ _ _ _ _ => pts_nil) (fun _ _ _ _ _ => (pe_tupG (pa_cons (pv 7) (pa_cons pe_bl pa_nil))))) pa_nil))) (pss_cons (ps_for PassesOwn.never rfl (pi_list (pv 3)) (pg_tup rfl (pgs_cons (pg_name (i := 5) sc__law_done.nd rfl (by first | exact Or.inl rfl | exact Or.inr rfl)) (pgs_cons (pg_name (i := 6) sc__law_done.nd rfl (by first | exact Or.inl rfl | exact Or.inr rfl)) pgs_nil))) (pss_cons (ps_set (i := 7) sc__law_done.nd rfl (by first | exact Or.inl rfl | exact Or.inr rfl) (pe_ix ix_list (pv 0) (pv 6) (fun _ _ => rfl))) (pss_one (ps_if (pt_cut (PW.pt (pw_and (pt_cmpR op_eq (pv 5) pe_str (nomark _)) (pw_and1 (pt_cmpR op_in_seq (pv 2) (pv 0) (by rfl)))))) (pss_cons (ps_set (i := 8) sc__law_done.nd rfl (by first | exact Or.inl rfl | exact Or.inr rfl) (pe_bm PySem.F.plainAttrs_list PySem.F.slot_list_index PySem.F.type_list_index mt_index (pv 0) (pa_cons (pv 2) pa_nil))) (pss_cons (ps_set (i := 9) sc__law_done.nd rfl (by first | exact Or.inl rfl | exact Or.inr rfl) (pe_dget2 (hu_of hr) (pv 4) (pv 2) pe_bl ⟨rfl, rfl, rfl, rfl⟩)) (pss_one (ps_for PassesOwn.never rfl (pi_range2 (by rfl) T.z_range (pa_cons (pe_callB (call_min2 rfl) (by rfl) T.z_min (by decide +kernel) (pa_cons (pv 8) (pa_cons (pv 6) pa_nil))) (pa_cons (pe_op op_add (pe_callB (call_max2 rfl) (by rfl) T.z_max (by decide +kernel) (pa_cons (pv 8) (pa_cons (pv 6) pa_nil))) pe_int) pa_nil))) (pg_name (i := 10) sc__law_done.nd rfl (by first | exact Or.inl rfl | exact Or.inr rfl)) (pss_one (ps_dput (hu_of hr) (pv 4) (pe_ix ix_list (pv 0) (pv 10) (fun _ _ => rfl)) (pv 9) rfl)))))) (pss_cons (ps_dput (hu_of hr) (pv 4) (pv 7) (pe_not (pe_dget2 (hu_of hr) (pv 4) (pv 7) pe_bl ⟨rfl, rfl, rfl, rfl⟩)) rfl) (pss_one (ps_set (i := 2) sc__law_done.nd rfl (by first | exact Or.inl rfl | exact Or.inr rfl) (pv 7)))))))) (pss_one (ps_ret (pe_tupG (pa_cons (pe_lc (own := [("_law_row", 7)]) (g := gName 7) (by rfl) sc__law_done.nd (pi_list (pe_callB (cr_sortedD rfl) (by rfl) T.z_sorted (by decide +kernel) (pa_cons (pv 4) pa_nil))) (blkOk_by (own := [("_law_row", 7)]) (N := ["_law_there", "_law_marks", "_law_anchor_here", "_law_clicks_here", "_law_now", "_law_word", "_law_position", "_law_row", "_law_at", "_law_wanted", "_law_place"]) (sc := defScope s__law_done) (by decide +kernel)) (fun _ _ _ _ _ => (pg_name (i := 7) sc__law_done.nd rfl (by first | exact Or.inl rfl | exact Or.inr rfl))) (fun _ _ _ _ _ => (pts_one (pt_val (pe_dget (hu_of hr) (pv 4) (pv 7) (fun _ _ => rfl))))) (fun _ _ _ _ _ => (pv 7))) (pa_cons (pv 2) pa_nil))))))), ?_⟩
    -- _law_now = dict([(row, True) for row in marks])
    refine ⟨_, rfl, m, rfl, ⟨_, hm⟩, fun D hD => lc_it (walk_list (K := K) (a := m) (xs := ms.map V.int)) (fun i H' => ∃ ps : List Addr, Ex H H' ∧ H' D = some (.lst (ps.map V.ref)) ∧ ps.length = i ∧ Paired (fun p kv => SqT K H' p [kV kv.1, kv.2]) ps (kvsOf (ms.take i) tt)) ⟨[], Evl.Ex.new hD, upd_same, rfl, .nil⟩ (fun i H' _ ⟨_, z, _⟩ => Evl.ex_l z hm) ?_ ?_⟩
    · rintro i v H2 H3 hi ⟨ps, e2, d2, hps, pr⟩ ⟨rfl, hx⟩
      obtain ⟨t, ht, rfl⟩ := mapI_get hx
      rw [List.length_map] at hi
      refine ⟨rfl, ?_⟩
      show _
      refine ⟨_, rfl, (by show 2 ≤ sizeLine; decide), fun q H4 nq e4 h4 => ?_⟩
      refine ⟨_, e4 _ _ d2, ?_, ps ++ [q], Evl.Ex.mut (e2.trans e4) hD, ?_, by simp [hps], ?_⟩
      · rw [List.length_map, hps]
        exact Nat.lt_of_lt_of_le (show i < 1000 by omega) (by decide)
      · rw [upd_same, List.map_append]
        rfl
      · have up : ∀ {p : Addr} {ys : List V}, SqT K H4 p ys → SqT K (upd H4 D (.lst (ps.map V.ref ++ [.ref q]))) p ys := fun {p ys} h => by
          have d4 := e4 _ _ d2
          rcases h with (h | ⟨o, h⟩) | h
          · refine .inl (.inl ?_)
            rw [upd_ne (fun z => by rw [z, d4] at h; cases h)]
            exact h
          · refine .inl (.inr ⟨o, ?_⟩)
            rw [upd_ne (fun z => by rw [z, d4] at h; cases h)]
            exact h
          · exact .inr h
        rw [take_snoc ht]
        unfold kvsOf
        rw [List.map_append]
        exact Paired.snoc (Paired.mapP pr fun _ _ z => up (Evl.ex_t e4 z)) (up (sqT h4))
    · rintro H2 ⟨ps, e2, d2, hps, pr⟩
      rw [List.length_map, List.take_length] at pr
      refine ⟨D, ps, _, rfl, sqI d2, pr, fun nd hnd => ?_⟩
      have em : mergeK [] (kvsOf ms tt) = kvsOf ms (bb fun r => decide (r ∈ ms)) := by
        refine (merge_tt ms [] nm).trans ?_
        rw [List.nil_append]
        exact kvs_congr fun n hn => by
          show V.bl true = .bl (decide (n ∈ ms))
          rw [decide_eq_true hn]
      rw [em]
      have e3 : Ex H2 (upd H2 nd (.dK (kvsOf ms (bb fun r => decide (r ∈ ms))))) := Evl.Ex.new hnd
      have d3 : upd H2 nd (.dK (kvsOf ms (bb fun r => decide (r ∈ ms)))) nd = some (.dK (kvsOf ms (bb fun r => decide (r ∈ ms)))) := upd_same
      generalize upd H2 nd (.dK (kvsOf ms (bb fun r => decide (r ∈ ms)))) = H3 at e3 d3 ⊢
      -- for word, position in clicks:
      refine ⟨_, rfl, b, rfl, ⟨_, Evl.ex_l (e2.trans e3) hb⟩, for_list (K := K) (a := b) (xs := xs) (fun i σ H' => DInv a m b nd ns ms ((cs.take i).foldl (step ns) (fun r => decide (r ∈ ms), an)) H2 σ H') ?_ ?_ ?_ ?_⟩
      · exact ⟨_, _, _, _, _, _, ms, rfl, e3, d3, nm, fun r hr => decide_eq_false hr, fun r hr => List.mem_append_left _ hr⟩
      · rintro i σ H' _ ⟨_, _, _, _, _, _, _, _, e, _⟩
        exact Evl.ex_l (e2.trans e) hb
      · rintro i x σ H' hi ⟨w5, w6, w7, w8, w9, w10, ks, rfl, e, d, fok⟩
        obtain ⟨c, q, hci, rfl, hq⟩ := (hc.ex (e2.trans e)).get hi
        have cok := ok c (List.mem_of_getElem? hci)
        rw [foldl_take hci]
        generalize (cs.take i).foldl (step ns) (fun r => decide (r ∈ ms), an) = st at d fok ⊢
        obtain ⟨f, an'⟩ := st
        obtain ⟨word, pos⟩ := c
        change NdOk f (ms ++ ns) ks at fok
        change H' nd = some (.dK (kvsOf ks (bb f))) at d
        have p0 : 0 ≤ pos := cok.2.1
        have p1 : pos < ns.length := cok.2.2
        refine ⟨_, _, rfl, hq, rfl, _, _, rfl, _, _, rfl, rfl, ?_⟩
        have ha' := Evl.ex_l (e2.trans e) ha
        refine ⟨_, rfl, _, rfl, _, _, _, _, rfl, rfl, ha', at_row p0 p1, ?_⟩
        refine ⟨fun b H'' => H'' = H' ∧ b = (rng ns word an').isSome, ?_, ?_⟩
        · refine ⟨_, rfl, rfl, _, rfl, ?_⟩
          rw [rng_isSome]
          refine ifB (fun c => ?_) (fun c => ⟨rfl, ?_⟩)
          · have c' : V.str word = V.str "range" := of_decide_eq_true c
            injection c' with c'
            refine ⟨_, rfl, _, rfl, a, _, rfl, .inl ha', ?_, flatI ns, _, rfl, rfl, ?_⟩
            · cases an' <;> rfl
            · show inV (anV an') (ns.map V.int) = _
              rw [decide_eq_true c', Bool.true_and]
              cases an' with
              | none => exact inV_non ns
              | some n => exact inV_int n ns
          · have c' : ¬ word = "range" := fun z => by
              have := of_decide_eq_false c
              exact this (by rw [z])
            rw [decide_eq_false c', Bool.false_and]
        · rintro bv H'' ⟨rfl, rfl⟩
          cases hrng : rng ns word an' with
          | none =>
            rw [step_cl hrng]
            have rm := row_mem p0 p1
            refine iteF ?_
            refine ⟨_, rfl, _, rfl, .inl ⟨_, .inl d⟩, _, rfl, _, .inl ⟨_, Sum.inl (rowAt ns pos), .inl d, rfl, rfl⟩, ?_⟩
            rw [fok.get]
            refine ⟨_, rfl, _, rfl, _, rfl, _, _, rfl, .inl ⟨_, Sum.inl (rowAt ns pos), d, rfl, fok.big hlm hl _, rfl⟩, ?_⟩
            have ef : (fun n => if n = rowAt ns pos then !f (rowAt ns pos) else f n) = (fun r => if r = rowAt ns pos then !f r else f r) := funext fun r => by
              by_cases z : r = rowAt ns pos
              · rw [if_pos z, if_pos z, z]
              · rw [if_neg z, if_neg z]
            rw [putK_bb]
            have nx := fok.put (!f (rowAt ns pos)) (List.mem_append_right ms rm)
            rw [ef] at nx ⊢
            exact ⟨_, rfl, _, _, _, _, _, _, _, rfl, Evl.Ex.mut e hnd, upd_same, nx⟩
          | some n =>
            obtain ⟨rfl, rfl, nm'⟩ := rng_some hrng
            rw [step_rng hrng]
            have ilt : ns.idxOf n < ns.length := List.idxOf_lt_length_of_mem nm'
            refine iteT ?_
            have gn : (ns.map V.int)[ns.idxOf n]? = some (V.int n) := by
              rw [List.getElem?_map, List.getElem?_eq_getElem ilt, List.getElem_idxOf]
              rfl
            refine ⟨_, rfl, .inl ⟨rfl, _, ha'⟩, _, rfl, a, _, _, ns.idxOf n, V.int n, rfl, rfl, ha', rfl, flatI ns, gn, (by show (n == n) = true; simp), ?_, ?_⟩
            · intro k' z' hk' hz'
              obtain ⟨t, ht, rfl⟩ := mapI_get hz'
              show (t == n) = false
              rw [beq_eq_false_iff_ne]
              intro e'
              subst e'
              have := idx_of nd' ht
              omega
            · refine ⟨_, rfl, _, rfl, .inl ⟨_, .inl d⟩, _, rfl, _, .inl ⟨_, Sum.inl n, .inl d, rfl, rfl⟩, ?_⟩
              rw [fok.get]
              have elo : (if pos < (ns.idxOf n : Int) then pos else (ns.idxOf n : Int)) = ((min (ns.idxOf n) pos.toNat : Nat) : Int) := by split <;> omega
              have ehi : (if pos > (ns.idxOf n : Int) then pos else (ns.idxOf n : Int)) = ((max (ns.idxOf n) pos.toNat : Nat) : Int) := by split <;> omega
              have pl : pos.toNat < ns.length := by omega
              refine ⟨_, rfl, _, rfl, _, _, rfl, _, rfl, _, rfl, _, _, rfl, _, _, rfl, rfl, _, _, rfl, ?_, ?_⟩
              · show _ ∧ _ ∧ _ ∧ _
                rw [elo, ehi]
                omega
              have en : ((if pos > (ns.idxOf n : Int) then pos else (ns.idxOf n : Int)) + 1 - (if pos < (ns.idxOf n : Int) then pos else (ns.idxOf n : Int))).toNat = (span ns (ns.idxOf n) pos.toNat).length := by
                rw [elo, ehi, span_len ilt pl]
                omega
              have smem : ∀ r ∈ span ns (ns.idxOf n) pos.toNat, r ∈ ns := fun r hr => List.mem_of_mem_drop (List.mem_of_mem_take hr)
              refine for_range (lo := (if pos < (ns.idxOf n : Int) then pos else (ns.idxOf n : Int))) (n := ((if pos > (ns.idxOf n : Int) then pos else (ns.idxOf n : Int)) + 1 - (if pos < (ns.idxOf n : Int) then pos else (ns.idxOf n : Int))).toNat) (fun j σ' H3 => ∃ v10 ks', σ' = [some (.ref a), some (.ref m), some (.int n), some (.ref b), some (.ref nd), some (.str "range"), some (.int pos), some (.int (rowAt ns pos)), some (.int (ns.idxOf n : Nat)), some (.bl (f n)), v10] ∧ Ex H2 H3 ∧ H3 nd = some (.dK (kvsOf ks' (bb fun r => if r ∈ (span ns (ns.idxOf n) pos.toNat).take j then f n else f r))) ∧ NdOk (fun r => if r ∈ (span ns (ns.idxOf n) pos.toNat).take j then f n else f r) (ms ++ ns) ks') ?_ ?_ ?_
              · exact ⟨_, ks, rfl, e, d, fok⟩
              · rintro j σ' H3 hj ⟨v10, ks', rfl, e3, d3, f3⟩
                rw [en] at hj
                have ht : (span ns (ns.idxOf n) pos.toNat)[j]? = some ((span ns (ns.idxOf n) pos.toNat)[j]'hj) := List.getElem?_eq_getElem hj
                generalize (span ns (ns.idxOf n) pos.toNat)[j]'hj = t at ht
                have tm := smem t (List.mem_of_getElem? ht)
                have hg : atI (ns.map V.int) ((if pos < (ns.idxOf n : Int) then pos else (ns.idxOf n : Int)) + j) = some (.int t) := by
                  rw [elo]
                  refine at_of (j := min (ns.idxOf n) pos.toNat + j) (by omega) ?_
                  rw [span_len ilt pl] at hj
                  rw [span_get hj] at ht
                  rw [List.getElem?_map, ht]
                  rfl
                refine ⟨_, rfl, _, rfl, _, rfl, _, rfl, _, _, _, _, rfl, rfl, Evl.ex_l (e2.trans e3) ha, hg, _, _, rfl, .inl ⟨_, Sum.inl t, d3, rfl, f3.big hlm hl _, rfl⟩, ?_⟩
                rw [putK_bb]
                have nx := f3.put (f n) (List.mem_append_right ms tm)
                have ef : (fun r => if r = t then f n else if r ∈ (span ns (ns.idxOf n) pos.toNat).take j then f n else f r) = (fun r => if r ∈ (span ns (ns.idxOf n) pos.toNat).take (j + 1) then f n else f r) := funext fun r => by
                  rw [take_snoc ht]
                  by_cases z : r = t
                  · rw [if_pos z, if_pos (by simp [z])]
                  · rw [if_neg z]
                    by_cases z2 : r ∈ (span ns (ns.idxOf n) pos.toNat).take j
                    · rw [if_pos z2, if_pos (List.mem_append_left _ z2)]
                    · rw [if_neg z2, if_neg (by simp [z, z2])]
                rw [ef] at nx ⊢
                exact ⟨_, _, rfl, Evl.Ex.mut e3 hnd, upd_same, nx⟩
              · rintro σ' H3 ⟨v10, ks', rfl, e3, d3, f3⟩
                rw [en, List.take_length] at d3 f3
                exact ⟨_, _, _, _, _, _, ks', rfl, e3, d3, f3⟩
      · rintro σ H' ⟨w5, w6, w7, w8, w9, w10, ks, rfl, e, d, fok⟩
        have el : xs.length = cs.length := hc.1
        have ed : (cs.take xs.length).foldl (step ns) (fun r => decide (r ∈ ms), an) = done ns ms an cs := by
          rw [el, List.take_length]
          rfl
        rw [ed] at d fok ⊢
        have ks_len : ks.length ≤ 2000 := by
          have := nodup_len fok.nd fok.dm
          rw [List.length_append] at this
          omega
        refine ⟨_, rfl, nd, _, ks, rfl, d, kvs_keys ks _, fun rs hp hs S H4 nS e4 h4 => ?_⟩
        have nSd : S ≠ nd := fun z => by rw [z, d] at nS; cases nS
        refine ⟨S, rfl, ⟨_, sqI h4⟩, fun D' hD' => lc_it (walk_list (K := K) (a := S) (xs := rs.map V.int)) (fun i H5 => Ex H4 H5 ∧ H5 D' = some (.lst (((rs.take i).filter (done ns ms an cs).1).map V.int))) ⟨Evl.Ex.new hD', upd_same⟩ (fun i H5 _ z => sqI (z.1 _ _ h4)) ?_ ?_⟩
        · rintro i v H5 H6 hi ⟨e5, d5⟩ ⟨rfl, hx⟩
          obtain ⟨t, ht, rfl⟩ := mapI_get hx
          rw [List.length_map] at hi
          have tk : t ∈ ks := hp.mem_iff.mp (List.mem_of_getElem? ht)
          have dd := (e4.trans e5) _ _ d
          refine ⟨rfl, ?_⟩
          show _
          refine ⟨_, rfl, _, rfl, _, _, rfl, .inl ⟨_, Sum.inl t, .inl dd, rfl, by rw [valV_kvs, if_pos tk]⟩, _, rfl, ?_⟩
          rw [take_snoc ht, List.filter_append]
          refine ifB (fun c => ?_) (fun c => ?_)
          · refine ⟨_, rfl, _, d5, ?_, Evl.Ex.mut e5 hD', ?_⟩
            · rw [List.length_map]
              refine Nat.lt_of_le_of_lt (List.length_filter_le _ _) ?_
              rw [List.length_take]
              have := hp.length_eq
              exact Nat.lt_of_le_of_lt (show _ ≤ 2000 by omega) (by decide)
            · rw [upd_same, List.filter_cons, c, List.map_append]
              rfl
          · refine ⟨e5, ?_⟩
            rw [List.filter_cons, c, d5]
            simp
        · rintro H5 ⟨e5, d5⟩
          rw [List.length_map, List.take_length] at d5
          refine ⟨_, rfl, (by show 2 ≤ sizeLine; decide), fun q H6 nq e6 h6 => ?_⟩
          have eH : Ex H H4 := e2.trans (e.trans e4)
          refine k D' q H6 (rs.filter (done ns ms an cs).1) (Ex_back eH hD') (eH.trans (e5.trans e6)) (ne_of_none d5 nq) (Ex_back (eH.trans e5) nq) h6 (e6 _ _ d5) ?_ (fun r => ?_) (fun r hr => fok.dm r (hp.mem_iff.mp (List.mem_filter.mp hr).1))
          · exact (asc_of hp hs fok.nd).sublist List.filter_sublist
          · rw [List.mem_filter, hp.mem_iff]
            constructor
            · exact fun z => z.2
            · intro z
              refine ⟨?_, z⟩
              by_cases zz : r ∈ ks
              · exact zz
              · rw [fok.is r zz] at z
                cases z
end
end K26
set_option Elab.async false
set_option linter.all false
set_option maxRecDepth 100000
set_option maxHeartbeats 4000000
namespace K26
open PySem L2 My
/-- an anchor: none, or an int of some bits -/
def AnB (an : Option Int) : Prop := ∀ n, an = some n → n.natAbs < 2 ^ 300
def IsAn (v : V) : Prop := ∃ an, v = anV an ∧ AnB an
theorem isAn_int {n : Int} (h : n.natAbs < 2 ^ 300) : IsAn (.int n) := ⟨some n, rfl, fun m e => by cases e; exact h⟩
theorem cut_mem {xs : List V} {lo hi : Option Int} {v : V} (h : v ∈ cutV xs lo hi) : v ∈ xs := by
  unfold cutV at h
  exact List.mem_of_mem_drop (List.mem_of_mem_take h)
theorem cut_len {xs : List V} {lo hi : Option Int} : (cutV xs lo hi).length ≤ xs.length := by
  unfold cutV
  rw [List.length_take, List.length_drop]
  omega
def sp__law_anchor (K : PySem.W.Frag) : Sp := fun vs H Q _ => ∃ (j a : Addr) (B : Int) (ns : List Int), vs = [.ref j, .ref a] ∧ Jug H j B ∧ B ≤ 2 ^ 50 ∧ H a = some (.lst (ns.map V.int)) ∧ a ≠ j ∧ ns.length ≤ 1000 ∧ Bd 300 ns ∧
  ∀ (an : Option Int) (H' : Hp), AnB an → Exj j H H' → Jug H' j (B + 10) → Q (anV an) H'
section
variable {P : Program} {w : World} {K : PySem.W.Frag} {mg : Str → Option Value} {base : Heap}
theorem ok__law_anchor (T : Txt K mg) : FnOk P w K mg base CX0 2 T.a__law_anchor T.d__law_anchor ["_law_source_here", "_law_there"] (sp__law_anchor K) := by
  refine T.f__law_anchor.ok sc__law_anchor (fun vs H Q E h => ?_) (fun cdv A outer s H vs Q E hr h => ?_)
  · obtain ⟨j, a, B, ns, rfl, _⟩ := h
    rfl
  · obtain ⟨j, a, B, ns, rfl, hj, hB, ha, naj, hl, hb, k⟩ := h
    refine ⟨_, (pss_cons (ps_set (i := 2) sc__law_anchor.nd rfl (by first | exact Or.inl rfl | exact Or.inr rfl) (pe_lstG (pa_cons pe_non (pa_cons pe_int (pa_cons (pe_op op_sub (pe_op op_sub pe_int pe_int) (pe_call (ok__law_draw T) (hr.mono (by decide)) (by rfl) T.g__law_draw T.f__law_draw.kp (b__law_draw T) .nil pass0 (pa_cons (pv 0) (pa_cons pe_int pa_nil)))) (pa_cons (pe_op op_add (pe_op op_powW pe_int pe_int) (pe_call (ok__law_draw T) (hr.mono (by decide)) (by rfl) T.g__law_draw T.f__law_draw.kp (b__law_draw T) .nil pass0 (pa_cons (pv 0) (pa_cons pe_int pa_nil)))) pa_nil)))))) (pss_cons (ps_set (i := 2) sc__law_anchor.nd rfl (by first | exact Or.inl rfl | exact Or.inr rfl) (pe_op op_catG (pe_op op_catG (pe_op op_catG (pv 2) (pe_slice sl_listG (pv 1) po_none (po_some pe_int))) (pe_slice sl_listG (pv 1) (po_some (pe_un un_neg pe_int)) po_none)) (pe_lstG (pa_cons (pe_call (ok__law_draw T) (hr.mono (by decide)) (by rfl) T.g__law_draw T.f__law_draw.kp (b__law_draw T) .nil pass0 (pa_cons (pv 0) (pa_cons pe_int pa_nil))) (pa_cons (pe_call (ok__law_draw T) (hr.mono (by decide)) (by rfl) T.g__law_draw T.f__law_draw.kp (b__law_draw T) .nil pass0 (pa_cons (pv 0) (pa_cons pe_int pa_nil))) pa_nil))))) (pss_one (ps_ret (pe_ix ix_list (pv 2) (pe_call (ok__law_draw T) (hr.mono (by decide)) (by rfl) T.g__law_draw T.f__law_draw.kp (b__law_draw T) .nil pass0 (pa_cons (pv 0) (pa_cons (pe_callB call_len_seq (by rfl) T.z_len PySem.boot_len (pa_cons (pv 2) pa_nil)) pa_nil))) (fun _ _ => rfl)))))), ?_⟩
    refine ⟨_, _, rfl, rfl, _, rfl, j, _, _, rfl, hj, by omega, by decide, by decide, fun d1 H1 d1a d1b e1 j1 => ?_⟩
    refine ⟨_, _, rfl, rfl, _, _, rfl, rfl, (show CPowW 10 59 by constructor <;> decide +kernel), _, rfl, j, _, _, rfl, j1, by omega, by decide, by decide, fun d2 H2 d2a d2b e2 j2 => ?_⟩
    refine ⟨_, _, rfl, rfl, (by show 4 ≤ sizeLine; decide), fun p3 H3 n3 e3 h3 => ?_⟩
    have n3j := j2.ne n3
    have ha3 : H3 a = some (.lst (ns.map V.int)) := e3 _ _ (e2 _ _ naj (e1 _ _ naj ha))
    have k3 : ∀ v ∈ [V.non, .int 99, .int (0 - 1 - d1), .int (10 ^ (59 : Int).toNat + d2)], IsAn v := by
      intro v hv
      have b59 : ((10 : Int) ^ (59 : Int).toNat) < 2 ^ 250 := by decide +kernel
      have c59 : 0 ≤ ((10 : Int) ^ (59 : Int).toNat) := by decide +kernel
      simp only [List.mem_cons, List.not_mem_nil, or_false] at hv
      rcases hv with rfl | rfl | rfl | rfl
      · exact ⟨none, rfl, fun n e => by cases e⟩
      · exact isAn_int (by decide)
      · exact isAn_int (by omega)
      · refine isAn_int ?_
        generalize ((10 : Int) ^ (59 : Int).toNat) = z at b59 c59 ⊢
        omega
    have kn : ∀ v ∈ ns.map V.int, IsAn v := fun v hv => by
      obtain ⟨n, hn, rfl⟩ := List.mem_map.mp hv
      exact isAn_int (hb n hn)
    generalize hx : [V.non, .int 99, .int (0 - 1 - d1), .int (10 ^ (59 : Int).toNat + d2)] = xs at h3 k3
    have xl : xs.length = 4 := by rw [← hx]; rfl
    refine ⟨_, rfl, _, rfl, _, rfl, _, _, rfl, sqI ha3, fun p4 H4 n4 e4 h4 => ?_⟩
    have l4 := cut_len (xs := ns.map V.int) (lo := none) (hi := some 1)
    rw [List.length_map] at l4
    refine ⟨_, _, _, _, rfl, rfl, e4 _ _ h3, h4, ?_, fun p5 H5 n5 e5 h5 => ?_⟩
    · rw [xl]
      exact Nat.le_trans (show _ ≤ 2000 by omega) (by decide)
    have n5j := ((j2.ex e3).ex e4).ne n5
    refine ⟨_, rfl, _, rfl, _, rfl, _, _, rfl, sqI (e5 _ _ (e4 _ _ ha3)), fun p6 H6 n6 e6 h6 => ?_⟩
    have l6 := cut_len (xs := ns.map V.int) (lo := some (-1)) (hi := none)
    rw [List.length_map] at l6
    refine ⟨_, _, _, _, rfl, rfl, e6 _ _ h5, h6, ?_, fun p7 H7 n7 e7 h7 => ?_⟩
    · rw [List.length_append, xl]
      exact Nat.le_trans (show _ ≤ 3000 by omega) (by decide)
    have j6 : Jug H6 j (B + 1 + 1) := ((((j2.ex e3).ex e4).ex e5).ex e6)
    have n7j := j6.ne n7
    refine ⟨_, rfl, j, _, _, rfl, j6.ex e7, by omega, by decide, by decide, fun d3 H8 d3a d3b e8 j8 => ?_⟩
    refine ⟨_, rfl, j, _, _, rfl, j8, by omega, by decide, by decide, fun d4 H9 d4a d4b e9 j9 => ?_⟩
    refine ⟨(by show 2 ≤ sizeLine; decide), fun p10 H10 n10 e10 h10 => ?_⟩
    refine ⟨_, _, _, _, rfl, rfl, e10 _ _ (e9 _ _ n7j (e8 _ _ n7j h7)), h10, ?_, fun p11 H11 n11 e11 h11 => ?_⟩
    · rw [List.length_append, List.length_append, xl]
      exact Nat.le_trans (show _ ≤ 4000 by simp only [List.length_cons, List.length_nil]; omega) (by decide)
    have n11j := (j9.ex e10).ne n11
    have kAll : ∀ v ∈ xs ++ cutV (ns.map V.int) none (some 1) ++ cutV (ns.map V.int) (some (-1)) none ++ [V.int d3, .int d4], IsAn v := by
      intro v hv
      rcases List.mem_append.mp hv with hv | hv
      · rcases List.mem_append.mp hv with hv | hv
        · rcases List.mem_append.mp hv with hv | hv
          · exact k3 v hv
          · exact kn v (cut_mem hv)
        · exact kn v (cut_mem hv)
      · simp only [List.mem_cons, List.not_mem_nil, or_false] at hv
        rcases hv with rfl | rfl
        · exact isAn_int (by omega)
        · exact isAn_int (by omega)
    have yl : 4 ≤ (xs ++ cutV (ns.map V.int) none (some 1) ++ cutV (ns.map V.int) (some (-1)) none ++ [V.int d3, .int d4]).length := by
      rw [List.length_append, List.length_append, List.length_append]
      omega
    have yh : (xs ++ cutV (ns.map V.int) none (some 1) ++ cutV (ns.map V.int) (some (-1)) none ++ [V.int d3, .int d4]).length ≤ 4000 := by
      rw [List.length_append, List.length_append, List.length_append]
      simp only [List.length_cons, List.length_nil]
      omega
    change H11 p11 = some (.lst (xs ++ cutV (ns.map V.int) none (some 1) ++ cutV (ns.map V.int) (some (-1)) none ++ [V.int d3, .int d4])) at h11
    generalize xs ++ cutV (ns.map V.int) none (some 1) ++ cutV (ns.map V.int) (some (-1)) none ++ [V.int d3, .int d4] = ys at h11 kAll yl yh
    refine ⟨_, rfl, _, rfl, _, rfl, _, _, rfl, .inl (sqI h11), j, _, _, rfl, (j9.ex e10).ex e11, by omega, by omega, by omega, fun d5 H12 d5a d5b e12 j12 => ?_⟩
    have hy : ys[d5.toNat]? = some (ys[d5.toNat]'(by omega)) := List.getElem?_eq_getElem (by omega)
    obtain ⟨an, e, hb⟩ := kAll _ (List.mem_of_getElem? hy)
    rw [e] at hy
    refine ⟨_, _, _, _, rfl, rfl, sqI (e12 _ _ n11j h11), at_of (j := d5.toNat) (by omega) hy, ?_⟩
    refine k an H12 hb ?_ (j12.mono (by omega))
    exact e1.trans (e2.trans ((Exj.of (e3.trans (e4.trans (e5.trans (e6.trans e7))))).trans (e8.trans (e9.trans ((Exj.of (e10.trans e11)).trans e12)))))
end
end K26
set_option Elab.async false
set_option linter.all false
set_option maxRecDepth 100000
set_option maxHeartbeats 4000000
namespace K26
open PySem L2 My
def anD : Option Int → PyData
  | none => .none
  | some n => .int n
def dueD (rs : List Int) (an : Option Int) : PyData := .tuple [eL PyData.int rs, anD an]
def eCl (c : Cl) : PyData := .tuple [.str c.1, .int c.2]
theorem dpAn {K : PySem.W.Frag} {H : Hp} (an : Option Int) : Dp K H (anV an) (anD an) := by
  cases an with
  | none => exact .non
  | some n => exact .int n
theorem dpDue {K : PySem.W.Frag} {H : Hp} {p q : Addr} {rs : List Int} {an : Option Int} (hq : H q = some (.tup [.ref p, anV an])) (hp : H p = some (.lst (rs.map V.int))) : Dp K H (.ref q) (dueD rs an) :=
  .tup (sqT hq) (.cons (dpL (sqI hp)) (.cons (dpAn an) .nil))
theorem shwAn {an : Option Int} (h : AnB an) : Shw (anD an) 0 1921 := by
  cases an with
  | none => exact Shw.none.mono (Nat.le_refl _) (by decide)
  | some n => exact Shw.int (log_of (Nat.lt_of_lt_of_le (h n rfl) (Nat.pow_le_pow_right (by decide) (by decide))))
theorem shwDue {rs : List Int} {an : Option Int} (h : AnB an) (hb : Bd 300 rs) (hl : rs.length ≤ 2000) : Shw (dueD rs an) 60 sizeLine := by
  have h1 : Shw (eL PyData.int rs) 1 4000000 := (Shw.ints (by decide) hb).mono (Nat.le_refl _) (by omega)
  refine (Shw.tuple (n := 1) (M := 4000000) fun x hx => ?_).mono (by decide) (by show 3 + 2 * (4000000 + 2) ≤ sizeLine; decide)
  simp only [List.mem_cons, List.not_mem_nil, or_false] at hx
  rcases hx with rfl | rfl
  · exact h1
  · exact (shwAn h).mono (by decide) (by decide)
theorem ClsH.tail {H : Hp} {v : V} {vs : List V} {c : Cl} {cs : List Cl} (h : ClsH H (v :: vs) (c :: cs)) : ClsH H vs cs := ⟨by simpa using h.1, fun i v c h1 h2 => h.2 (i + 1) v c h1 h2⟩
theorem dpCls {K : PySem.W.Frag} {H : Hp} : ∀ {vs : List V} {cs : List Cl}, ClsH H vs cs → DpAll K H vs (cs.map eCl)
  | [], [], _ => .nil
  | [], _ :: _, h => by simp [ClsH] at h
  | _ :: _, [], h => by simp [ClsH] at h
  | v :: vs, c :: cs, h => by
    obtain ⟨q, e1, e2⟩ := h.2 0 v c rfl rfl
    subst e1
    exact .cons (.tup (sqT e2) (.cons (.str _) (.cons (.int _) .nil))) (dpCls h.tail)
theorem layCl {n : Nat} : ∀ {cs : List Cl}, ClOk n cs → PyData.canLayAll0 (cs.map eCl) = true ∧ PyData.depthAll (cs.map eCl) ≤ 1
  | [], _ => ⟨rfl, Nat.zero_le _⟩
  | c :: cs, h => by
    obtain ⟨i1, i2⟩ := layCl (cs := cs) fun d hd => h d (List.mem_cons_of_mem _ hd)
    have hw := (h c List.mem_cons_self).1
    have e : PyData.canLay0 (eCl c) = true := by
      show (PyData.canLay0 (.str c.1) && (PyData.canLay0 (.int c.2) && true)) = true
      have : PyData.canLay0 (.str c.1) = true := by
        rcases hw with z | z
        · rw [z]
          decide +kernel
        · rw [z]
          decide +kernel
      rw [this]
      rfl
    refine ⟨?_, Nat.max_le.mpr ⟨?_, i2⟩⟩
    · show (PyData.canLay0 (eCl c) && PyData.canLayAll0 (cs.map eCl)) = true
      rw [e, i1]
      rfl
    · exact Nat.le_refl _
def copD (ns ms : List Int) (cs : List Cl) : PyData := .tuple [eL PyData.int ns, eL PyData.int ms, .list (cs.map eCl)]
theorem shCop {n : Nat} {ns ms : List Int} {cs : List Cl} (h : ClOk n cs) : (copD ns ms cs).canLay0 = true ∧ SeqAt.shaped (copD ns ms cs) = true := by
  obtain ⟨i1, i2⟩ := layCl h
  have l : (copD ns ms cs).canLay0 = true := by
    show (PyData.canLay0 (eL PyData.int ns) && (PyData.canLay0 (eL PyData.int ms) && (PyData.canLayAll0 (cs.map eCl) && true))) = true
    rw [(goodL goodI).lay, (goodL goodI).lay, i1]
    rfl
  refine ⟨l, ?_⟩
  unfold SeqAt.shaped
  have d : (copD ns ms cs).depth ≤ 64 := by
    show max (PyData.depth (eL PyData.int ns)) (max (PyData.depth (eL PyData.int ms)) (max (PyData.depthAll (cs.map eCl) + 1) 0)) + 1 ≤ 64
    have a1 := (goodL goodI).dep ns
    have a2 := (goodL goodI).dep ms
    omega
  rw [l, decide_eq_true d]
  rfl
theorem done_anB {n : Nat} {ns ms : List Int} {an : Option Int} {cs : List Cl} (hb : Bd 300 ns) (ha : AnB an) (hc : ClOk ns.length cs) : AnB (done ns ms an cs).2 := by
  unfold done
  generalize (fun r => decide (r ∈ ms)) = f
  induction cs generalizing f an with
  | nil => exact ha
  | cons c cs ih =>
    obtain ⟨word, pos⟩ := c
    have cok := hc _ List.mem_cons_self
    have rest : ClOk ns.length cs := fun d hd => hc d (List.mem_cons_of_mem _ hd)
    show AnB (cs.foldl (step ns) (step ns (f, an) (word, pos))).2
    cases hr : rng ns word an with
    | none =>
      rw [step_cl hr]
      refine ih (fun m e => ?_) rest _
      cases e
      exact hb _ (row_mem cok.2.1 cok.2.2)
    | some m =>
      rw [step_rng hr]
      exact ih ha rest _
theorem done_two (ns ms rs : List Int) (an : Option Int) (cs : List Cl) (n : Nat) (h : ∀ r, r ∈ rs ↔ (done ns ms an (cs.take n)).1 r = true) : done ns rs (done ns ms an (cs.take n)).2 (cs.drop n) = done ns ms an cs := by
  have e : (fun r => decide (r ∈ rs)) = (done ns ms an (cs.take n)).1 := funext fun r => by
    rw [Bool.eq_iff_iff, decide_eq_true_iff]
    exact h r
  unfold done at e ⊢
  rw [e]
  show (cs.drop n).foldl (step ns) ((cs.take n).foldl (step ns) _) = _
  rw [← List.foldl_append, List.take_append_drop]
theorem eqvR {d : PyData} (h : d.canLay0 = true) : PyData.eqv d d = true := PySem.SeqAt.eqv_refl d h
def sp__law_case_right (K : PySem.W.Frag) : Sp := fun vs H Q _ => ∃ (j a m b : Addr) (B : Int) (ns ms : List Int) (xs : List V) (cs : List Cl) (an : Option Int), vs = [.ref j, .ref a, .ref m, anV an, .ref b] ∧ Jug H j B ∧ B ≤ 2 ^ 50 ∧ a ≠ j ∧ m ≠ j ∧ b ≠ j ∧ H a = some (.lst (ns.map V.int)) ∧ H m = some (.lst (ms.map V.int)) ∧ H b = some (.lst xs) ∧ ns.Nodup ∧ ns.length ≤ 1000 ∧ ms.Pairwise (· < ·) ∧ ms.length ≤ 1000 ∧ ClsH H xs cs ∧ ClOk ns.length cs ∧ cs.length ≤ 100 ∧ Bd 300 ns ∧ Bd 300 ms ∧ AnB an ∧
  ∀ (H' : Hp), Exj j H H' → Jug H' j (B + 10) → Q (.bl true) H'
theorem bd_of {rs ms ns : List Int} (h : ∀ r ∈ rs, r ∈ ms ++ ns) (h1 : Bd 300 ms) (h2 : Bd 300 ns) : Bd 300 rs := fun r hr => by
  rcases List.mem_append.mp (h r hr) with z | z
  · exact h1 r z
  · exact h2 r z
theorem ln_of {rs ms ns : List Int} (h : ∀ r ∈ rs, r ∈ ms ++ ns) (h0 : rs.Pairwise (· < ·)) (h1 : ms.length ≤ 1000) (h2 : ns.length ≤ 1000) : rs.length ≤ 2000 := by
  have := nodup_len (pw_nodup h0) h
  rw [List.length_append] at this
  omega
section
variable {w : World} {K : PySem.W.Frag} {mg : Str → Option Value} {base : Heap}
theorem ok__law_case_right (T : Txt K mg) : FnOkG PR w K mg base CX0 6 T.a__law_case_right T.d__law_case_right ["_law_source_here", "_law_there", "_law_marks", "_law_anchor_here", "_law_clicks_here"] (sp__law_case_right K) := by
  refine T.f__law_case_right.okG sc__law_case_right (fun vs H Q E h => ?_) (fun cdv A outer s H vs Q E hr gd h => ?_)
  · obtain ⟨j, a, m, b, B, ns, ms, xs, cs, an, rfl, _⟩ := h
    rfl
  · obtain ⟨j, a, m, b, B, ns, ms, xs, cs, an, rfl, hj, hB, naj, nmj, nbj, ha, hm, hb, nd, hl, pw, hlm, hc, ok, hlc, bn, bm, ba, k⟩ := h
    refine ⟨_, (pss_cons (ps_set (i := 5) sc__law_case_right.nd rfl (by first | exact Or.inl rfl | exact Or.inr rfl) (pe_call (ok__law_done T) (hr.mono (by decide)) (by rfl) T.g__law_done T.f__law_done.kp (b__law_done T) .nil pass0 (pa_cons (pv 1) (pa_cons (pv 2) (pa_cons (pv 3) (pa_cons (pv 4) pa_nil)))))) (pss_cons (ps_set (i := 6) sc__law_case_right.nd rfl (by first | exact Or.inl rfl | exact Or.inr rfl) (pe_tupG (pa_cons (pe_callTy call_listG (by rfl) T.z_list (by decide +kernel) (pa_cons (pv 1) pa_nil)) (pa_cons (pe_callTy call_listG (by rfl) T.z_list (by decide +kernel) (pa_cons (pv 2) pa_nil)) (pa_cons (pe_callTy call_listG (by rfl) T.z_list (by decide +kernel) (pa_cons (pv 4) pa_nil)) pa_nil))))) (pss_cons (ps_set (i := 7) sc__law_case_right.nd rfl (by first | exact Or.inl rfl | exact Or.inr rfl) (pe_call (ok_marked T) (hr.mono (by decide)) (by rfl) T.g_marked T.f_marked.kp (b_marked T) .nil passL (pa_cons (pv 1) (pa_cons (pv 2) (pa_cons (pv 3) (pa_cons (pv 4) pa_nil)))))) (pss_cons (ps_if (PW.pt (pw_or (pt_cmpR op_ne (pe_callB (cr_reprA gd hr.units) (by rfl) T.z_repr (by decide +kernel) (pa_cons (pv 7) pa_nil)) (pe_callB (cr_reprA gd hr.units) (by rfl) T.z_repr (by decide +kernel) (pa_cons (pv 5) pa_nil)) (nomark _)) (pw_or1 (pt_cmpR (op_neD hr.units) (pe_tupG (pa_cons (pv 1) (pa_cons (pv 2) (pa_cons (pv 4) pa_nil)))) (pv 6) (nomark _))))) (pss_one (ps_ret pe_bl)) pss_nil) (pss_cons (ps_expr (pe_bm PySem.F.plainAttrs_list PySem.F.slot_list_append PySem.F.type_list_append mt_append (pe_ix ix_tup (pv 7) pe_int (fun _ _ => rfl)) (pa_cons pe_int pa_nil))) (pss_cons (ps_if (pt_cmpR op_ne (pe_callB (cr_reprA gd hr.units) (by rfl) T.z_repr (by decide +kernel) (pa_cons (pe_callK0 (ok_marked T) (hr.mono (by decide)) (by rfl) T.g_marked T.f_marked.kp (kb_marked_0_clicks_anchor_marks_there T) passL (pk_cons (pv 4) (pk_cons (pv 3) (pk_cons (pv 2) (pk_cons (pv 1) pk_nil))))) pa_nil)) (pe_callB (cr_reprA gd hr.units) (by rfl) T.z_repr (by decide +kernel) (pa_cons (pv 5) pa_nil)) (nomark _)) (pss_one (ps_ret pe_bl)) pss_nil) (pss_cons (ps_if (pt_cmpR op_ne (pe_callB (cr_reprA gd hr.units) (by rfl) T.z_repr (by decide +kernel) (pa_cons (pe_call (ok_anchor_after T) (hr.mono (by decide)) (by rfl) T.g_anchor_after T.f_anchor_after.kp (b_anchor_after T) .nil passL (pa_cons (pv 1) (pa_cons (pv 3) (pa_cons (pv 4) pa_nil)))) pa_nil)) (pe_callB (cr_reprA gd hr.units) (by rfl) T.z_repr (by decide +kernel) (pa_cons (pe_ix ix_tup (pv 5) pe_int (fun _ _ => rfl)) pa_nil)) (nomark _)) (pss_one (ps_ret pe_bl)) pss_nil) (pss_cons (ps_if (pt_cmpR op_ne (pe_callB (cr_reprA gd hr.units) (by rfl) T.z_repr (by decide +kernel) (pa_cons (pe_callK0 (ok_anchor_after T) (hr.mono (by decide)) (by rfl) T.g_anchor_after T.f_anchor_after.kp (kb_anchor_after_0_clicks_there_anchor T) passL (pk_cons (pv 4) (pk_cons (pv 1) (pk_cons (pv 3) pk_nil)))) pa_nil)) (pe_callB (cr_reprA gd hr.units) (by rfl) T.z_repr (by decide +kernel) (pa_cons (pe_ix ix_tup (pv 5) pe_int (fun _ _ => rfl)) pa_nil)) (nomark _)) (pss_one (ps_ret pe_bl)) pss_nil) (pss_cons (ps_set (i := 8) sc__law_case_right.nd rfl (by first | exact Or.inl rfl | exact Or.inr rfl) (pe_call (ok__law_draw T) (hr.mono (by decide)) (by rfl) T.g__law_draw T.f__law_draw.kp (b__law_draw T) .nil pass0 (pa_cons (pv 0) (pa_cons (pe_op op_add (pe_callB call_len_seq (by rfl) T.z_len PySem.boot_len (pa_cons (pv 4) pa_nil)) pe_int) pa_nil)))) (pss_cons (ps_set (i := 9) sc__law_case_right.nd rfl (by first | exact Or.inl rfl | exact Or.inr rfl) (pe_call (ok_marked T) (hr.mono (by decide)) (by rfl) T.g_marked T.f_marked.kp (b_marked T) .nil passL (pa_cons (pv 1) (pa_cons (pv 2) (pa_cons (pv 3) (pa_cons (pe_slice sl_listG (pv 4) po_none (po_some (pv 8))) pa_nil)))))) (pss_cons (ps_if (pt_cmpR op_gt (pe_callB call_len_seq (by rfl) T.z_len PySem.boot_len (pa_cons (pe_ix ix_tup (pv 9) pe_int (fun _ _ => rfl)) pa_nil)) pe_int (nomark _)) (pss_one (ps_ret pe_bl)) pss_nil) (pss_one (ps_ret (pe_cmpR op_eq (pe_callB (cr_reprA gd hr.units) (by rfl) T.z_repr (by decide +kernel) (pa_cons (pe_call (ok_marked T) (hr.mono (by decide)) (by rfl) T.g_marked T.f_marked.kp (b_marked T) .nil passL (pa_cons (pv 1) (pa_cons (pe_ix ix_tup (pv 9) pe_int (fun _ _ => rfl)) (pa_cons (pe_ix ix_tup (pv 9) pe_int (fun _ _ => rfl)) (pa_cons (pe_slice sl_listG (pv 4) (po_some (pv 8)) po_none) pa_nil))))) pa_nil)) (pe_callB (cr_reprA gd hr.units) (by rfl) T.z_repr (by decide +kernel) (pa_cons (pv 5) pa_nil)) (nomark _))))))))))))))), ?_⟩
    -- due
    refine ⟨_, rfl, _, rfl, _, rfl, _, rfl, a, m, b, ns, ms, xs, cs, an, rfl, sqI ha, sqI hm, sqI hb, nd, hl, pw_nodup pw, hlm, hc.cls, ok, fun p0 q0 H0 rs np0 e0 npq nq0 hq0 hp0 rpw rmem rdom => ?_⟩
    have ab := done_anB (n := 0) (ms := ms) bn ba ok
    have rb := bd_of rdom bm bn
    have rl := ln_of rdom rpw hlm hl
    have dsh := shwDue ab rb rl
    -- copies
    refine ⟨_, rfl, _, _, rfl, .inl (sqI (e0 _ _ ha)), fun p1 H1 n1 e1 h1 => ?_⟩
    refine ⟨_, rfl, _, _, rfl, .inl (sqI (e1 _ _ (e0 _ _ hm))), fun p2 H2 n2 e2 h2 => ?_⟩
    refine ⟨_, rfl, _, _, rfl, .inl (sqI (e2 _ _ (e1 _ _ (e0 _ _ hb)))), fun p3 H3 n3 e3 h3 => ?_⟩
    refine ⟨(by show 3 ≤ sizeLine; decide), fun p4 H4 n4 e4 h4 => ?_⟩
    have x4 : Ex H0 H4 := e1.trans (e2.trans (e3.trans e4))
    have eH4 : Ex H H4 := e0.trans x4
    have ha4 := eH4 _ _ ha
    have hm4 := eH4 _ _ hm
    have hb4 := eH4 _ _ hb
    have hc4 := hc.ex eH4
    have hj4 := hj.ex eH4
    have hq4 := x4 _ _ hq0
    have hp4 := x4 _ _ hp0
    have c1 := (e2.trans (e3.trans e4)) _ _ h1
    have c2 := (e3.trans e4) _ _ h2
    have c3 := e4 _ _ h3
    have n04 : H4 p0 ≠ none := by rw [hp4]; exact fun z => by cases z
    -- told
    refine ⟨_, rfl, _, rfl, _, rfl, _, rfl, a, m, b, ns, ms, xs, cs, an, rfl, sqI ha4, sqI hm4, sqI hb4, nd, hl, pw, hlm, hc4.cls, ok, fun p5 q5 H5 rs5 np5 e5 npq5 nq5 hq5 hp5 rpw5 rmem5 rdom5 => ?_⟩
    obtain rfl : rs5 = rs := asc_unique rpw5 rpw fun r => by rw [rmem5, rmem]
    -- if repr(told) != repr(due) or ..
    refine ⟨_, rfl, _, _, rfl, dpDue hq5 hp5, dsh, _, rfl, _, _, rfl, dpDue (e5 _ _ hq4) (e5 _ _ hp4), dsh, rfl, _, rfl, ifF (nef rfl) ?_⟩
    refine ⟨_, rfl, _, rfl, _, rfl, (by show 3 ≤ sizeLine; decide), fun p6 H6 n6 e6 h6 => ?_⟩
    have x6 : Ex H4 H6 := e5.trans e6
    obtain ⟨lay, shp⟩ := shCop (ns := ns) (ms := ms) ok
    refine ⟨_, rfl, copD ns ms cs, copD ns ms cs, .tup (sqT h6) (.cons (dpL (sqI (x6 _ _ ha4))) (.cons (dpL (sqI (x6 _ _ hm4))) (.cons (.lst (sqI (x6 _ _ hb4)) (dpCls (hc4.ex x6))) .nil))), .tup (sqT (x6 _ _ h4)) (.cons (dpL (sqI (x6 _ _ c1))) (.cons (dpL (sqI (x6 _ _ c2))) (.cons (.lst (sqI (x6 _ _ c3)) (dpCls (hc4.ex x6))) .nil))), shp, shp, _, rfl, ?_⟩
    refine ifF (by rw [eqvR lay]; rfl) ?_
    -- told[0].append(77)
    have hq6 := e6 _ _ hq5
    have hp6 := e6 _ _ hp5
    refine ⟨_, rfl, _, _, _, _, rfl, rfl, sqT hq6, at0, .inl ⟨rfl, _, sqI hp6⟩, _, _, _, rfl, rfl, hp6, ?_, ?_⟩
    · rw [List.length_map]
      exact Nat.lt_of_le_of_lt rl (by decide)
    have x7 : Ex H4 (L2.upd H6 p5 (.lst (rs5.map V.int ++ [.int 77]))) := Evl.Ex.mut x6 np5
    generalize L2.upd H6 p5 (.lst (rs5.map V.int ++ [.int 77])) = H7 at x7 ⊢
    -- if repr(marked(..)) != repr(due)
    refine ⟨_, rfl, _, rfl, _, rfl, _, rfl, a, m, b, ns, ms, xs, cs, an, rfl, sqI (x7 _ _ ha4), sqI (x7 _ _ hm4), sqI (x7 _ _ hb4), nd, hl, pw, hlm, (hc4.ex x7).cls, ok, fun p8 q8 H8 rs8 np8 e8 npq8 nq8 hq8 hp8 rpw8 rmem8 rdom8 => ?_⟩
    have er : rs8 = rs5 := asc_unique rpw8 rpw fun r => by rw [rmem8, rmem]
    rw [er] at hp8
    have x8 : Ex H4 H8 := x7.trans e8
    refine ⟨_, _, rfl, dpDue hq8 hp8, dsh, _, rfl, _, _, rfl, dpDue (x8 _ _ hq4) (x8 _ _ hp4), dsh, rfl, _, rfl, ifF (nef rfl) ?_⟩
    -- if repr(anchor_after(..)) != repr(due[1])
    refine ⟨_, rfl, _, rfl, _, rfl, a, b, ns, xs, cs, an, rfl, sqI (x8 _ _ ha4), sqI (x8 _ _ hb4), nd, hl, (hc4.ex x8).cls, ok, fun H9 e9 => ?_⟩
    have x9 : Ex H4 H9 := x8.trans e9
    have ea := done_an ns ms [] an cs
    rw [← ea]
    refine ⟨_, _, rfl, dpAn _, (shwAn ab).mono (by decide) (by decide), _, rfl, _, _, _, _, rfl, rfl, sqT (x9 _ _ hq4), at1, _, _, rfl, dpAn _, (shwAn ab).mono (by decide) (by decide), rfl, _, rfl, ifF (nef rfl) ?_⟩
    refine ⟨_, rfl, _, rfl, _, rfl, a, b, ns, xs, cs, an, rfl, sqI (x9 _ _ ha4), sqI (x9 _ _ hb4), nd, hl, (hc4.ex x9).cls, ok, fun H10 e10 => ?_⟩
    have x10 : Ex H4 H10 := x9.trans e10
    rw [← ea]
    refine ⟨_, _, rfl, dpAn _, (shwAn ab).mono (by decide) (by decide), _, rfl, _, _, _, _, rfl, rfl, sqT (x10 _ _ hq4), at1, _, _, rfl, dpAn _, (shwAn ab).mono (by decide) (by decide), rfl, _, rfl, ifF (nef rfl) ?_⟩
    -- cut
    have lx : xs.length = cs.length := hc.1
    refine ⟨_, rfl, _, rfl, _, _, rfl, .inl (sqI (x10 _ _ hb4)), _, _, rfl, rfl, j, _, B, rfl, hj4.ex x10, by omega, by omega, by omega, fun n H11 n0 n1 e11 j11 => ?_⟩
    have y11 : Exj j H4 H11 := (Exj.of x10).trans e11
    have nq0j : q0 ≠ j := hj.ne nq0
    have np0j : p0 ≠ j := hj.ne np0
    have ha11 := y11 _ _ naj ha4
    have hm11 := y11 _ _ nmj hm4
    have hb11 := y11 _ _ nbj hb4
    have hq11 := y11 _ _ nq0j hq4
    have hp11 := y11 _ _ np0j hp4
    have hc11 : ClsH H11 xs cs := hc4.exj y11 hj4
    obtain ⟨nn, rfl⟩ : ∃ nn : Nat, n = (nn : Int) := ⟨n.toNat, by omega⟩
    -- half
    refine ⟨_, rfl, _, rfl, _, rfl, _, rfl, _, rfl, _, rfl, _, _, rfl, sqI hb11, fun p12 H12 n12 e12 h12 => ?_⟩
    rw [cut_to] at h12
    refine ⟨a, m, p12, ns, ms, _, cs.take nn, an, rfl, sqI (e12 _ _ ha11), sqI (e12 _ _ hm11), sqI h12, nd, hl, pw, hlm, ((hc11.take nn).ex e12).cls, fun c hc => ok c (List.mem_of_mem_take hc), fun p13 q13 H13 rs13 np13 e13 npq13 nq13 hq13 hp13 rpw13 rmem13 rdom13 => ?_⟩
    have y13 : Ex H11 H13 := e12.trans e13
    have fin : ∀ {H' : Hp}, Ex H13 H' → Exj j H H' ∧ Jug H' j (B + 10) := fun {H'} e => ⟨(Exj.of eH4).trans (y11.trans (Exj.of (y13.trans e))), ((j11.ex y13).ex e).mono (by omega)⟩
    refine ⟨_, rfl, _, _, _, _, rfl, rfl, sqT hq13, at0, _, _, rfl, .inl (sqI hp13), _, _, rfl, rfl, _, rfl, ?_⟩
    refine ifB (fun c => ?_) (fun c => ?_)
    · exact k _ (fin (Evl.Ex.refl _)).1 (fin (Evl.Ex.refl _)).2
    · have rl13 : rs13.length ≤ 1000 := by
        have := of_decide_eq_false c
        rw [List.length_map] at this
        omega
      refine ⟨_, rfl, _, rfl, _, _, _, _, rfl, rfl, sqT hq13, at0, _, rfl, _, _, _, _, rfl, rfl, sqT hq13, at1, _, rfl, _, rfl, _, rfl, _, _, rfl, sqI (y13 _ _ hb11), fun p14 H14 n14 e14 h14 => ?_⟩
      rw [cut_from] at h14
      have b13 := bd_of rdom13 bm bn
      refine ⟨a, p13, p14, ns, rs13, _, cs.drop nn, _, rfl, sqI (e14 _ _ (y13 _ _ ha11)), sqI (e14 _ _ hp13), sqI h14, nd, hl, rpw13, rl13, (((hc11.drop nn).ex y13).ex e14).cls, fun c hc => ok c (List.mem_of_mem_drop hc), fun p15 q15 H15 rs15 np15 e15 npq15 nq15 hq15 hp15 rpw15 rmem15 rdom15 => ?_⟩
      rw [done_two ns ms rs13 an cs nn rmem13] at hq15 rmem15
      have er : rs15 = rs5 := asc_unique rpw15 rpw fun r => by rw [rmem15, rmem]
      rw [er] at hp15
      have y15 : Ex H13 H15 := e14.trans e15
      refine ⟨_, _, rfl, dpDue hq15 hp15, dsh, _, rfl, _, _, rfl, dpDue (y15 _ _ (y13 _ _ hq11)) (y15 _ _ (y13 _ _ hp11)), dsh, rfl, ?_⟩
      rw [decide_eq_true rfl]
      exact k _ (fin y15).1 (fin y15).2
end
end K26
set_option Elab.async false
set_option linter.all false
set_option maxRecDepth 100000
set_option maxHeartbeats 4000000
namespace K26
open PySem L2 My
def sp_law (K : PySem.W.Frag) : Sp := fun vs H Q _ => ∃ (a : Addr) (ns : List Int), vs = [.ref a] ∧ SqL K H a (ns.map V.int) ∧ ns.length ≤ 63 ∧ ∀ H', Q (.bl true) H'
theorem Exj.exOf {j : Addr} {H H1 H2 : Hp} (e : Ex H H1) (n : H j = none) (e2 : Exj j H1 H2) : Ex H H2 := fun b o h => e2 b o (ne_of_none h n) (e b o h)
theorem rg_ok (n : Nat) (h : n ≤ 1000) : RgOk 0 (n : Int) := RgOk.of_le (by omega) (by omega) (by omega) (by omega)
theorem mul_nodup {ts : List Int} (h : ts.Nodup) {g : Int} (hg : 1 ≤ g) : (ts.map (· * g)).Nodup := by
  show List.Pairwise _ _
  rw [List.pairwise_map]
  exact h.imp fun {a b} hab e => hab (Int.eq_of_mul_eq_mul_right (by omega) e)
theorem mul_bd {ts : List Int} (h : ∀ t ∈ ts, 0 ≤ t ∧ t < 100) {g : Int} (hg : 1 ≤ g) (hg2 : g < 2 ^ 200) : Bd 300 (ts.map (· * g)) := by
  intro x hx
  obtain ⟨t, ht, rfl⟩ := List.mem_map.mp hx
  obtain ⟨h0, h1⟩ := h t ht
  show (t * g).natAbs < 2 ^ 300
  rw [Int.natAbs_mul]
  have a : t.natAbs ≤ 100 := by omega
  have b : g.natAbs ≤ 2 ^ 200 := by omega
  have := Nat.mul_le_mul a b
  have z : 100 * 2 ^ 200 < 2 ^ 300 := by decide +kernel
  omega
theorem some_nodup {ts ls ns : List Int} (h : (ts ++ ls).Perm ns) (hn : ns.Nodup) : ts.Nodup := (List.nodup_append.mp (h.nodup_iff.mpr hn)).1
theorem some_mem {ts ls ns : List Int} (h : (ts ++ ls).Perm ns) {t : Int} (ht : t ∈ ts) : t ∈ ns := h.mem_iff.mp (List.mem_append_left _ ht)
theorem upN_bd {ts ls : List Int} {n : Nat} (h : (ts ++ ls).Perm (upN n)) (hn : n ≤ 100) : ∀ t ∈ ts, 0 ≤ t ∧ t < 100 := fun t ht => by
  have := upN_mem (some_mem h ht)
  omega
theorem mul_ok {t g : Int} (h0 : 0 ≤ t) (h1 : t < 100) (hg : 1 ≤ g) (hg2 : g < 2 ^ 200) : CMulW t g := wide_mul (a := 20) (b := 200) (by omega) (by omega) (by decide) (by decide) (by decide)
section
variable {w : World} {K : PySem.W.Frag} {mg : Str → Option Value} {base : Heap}
theorem ok_law (T : Txt K mg) : FnOkG PR w K mg base CX0 7 T.a_law T.d_law ["_law_script"] (sp_law K) := by
  refine T.f_law.okG sc_law (fun vs H Q E h => ?_) (fun cdv A outer s H vs Q E hr gd h => ?_)
  · obtain ⟨a, ns, rfl, _⟩ := h
    rfl
  · obtain ⟨sa, sc, rfl, hs, hsl, k⟩ := h
    refine ⟨_, (pss_cons (ps_for PassesOwn.never rfl (pi_range1 (by rfl) T.z_range (pa_cons (pe_callB (call_max2 rfl) (by rfl) T.z_max (by decide +kernel) (pa_cons pe_int (pa_cons (pe_callB (call_min2 rfl) (by rfl) T.z_min (by decide +kernel) (pa_cons pe_int (pa_cons (pe_callB call_len_seq (by rfl) T.z_len PySem.boot_len (pa_cons (pv 0) pa_nil)) pa_nil))) pa_nil))) pa_nil)) (pg_name (i := 1) sc_law.nd rfl (by first | exact Or.inl rfl | exact Or.inr rfl)) (pss_cons (ps_set (i := 2) sc_law.nd rfl (by first | exact Or.inl rfl | exact Or.inr rfl) (pe_call (ok__law_source T) (hr.mono (by decide)) (by rfl) T.g__law_source T.f__law_source.kp (b__law_source T) .nil pass0 (pa_cons (pv 0) (pa_cons (pv 1) pa_nil)))) (pss_cons (ps_set (i := 3) sc_law.nd rfl (by first | exact Or.inl rfl | exact Or.inr rfl) (pe_ix ix_list (pe_lstG (pa_cons (pe_call (ok__law_draw T) (hr.mono (by decide)) (by rfl) T.g__law_draw T.f__law_draw.kp (b__law_draw T) .nil pass0 (pa_cons (pv 2) (pa_cons pe_int pa_nil))) (pa_cons (pe_call (ok__law_draw T) (hr.mono (by decide)) (by rfl) T.g__law_draw T.f__law_draw.kp (b__law_draw T) .nil pass0 (pa_cons (pv 2) (pa_cons pe_int pa_nil))) (pa_cons pe_int pa_nil)))) (pe_call (ok__law_draw T) (hr.mono (by decide)) (by rfl) T.g__law_draw T.f__law_draw.kp (b__law_draw T) .nil pass0 (pa_cons (pv 2) (pa_cons pe_int pa_nil))) (fun _ _ => rfl))) (pss_cons (ps_set (i := 4) sc_law.nd rfl (by first | exact Or.inl rfl | exact Or.inr rfl) (pe_ix ix_list (pe_lstG (pa_cons pe_int (pa_cons pe_int (pa_cons (pe_op op_powW pe_int pe_int) pa_nil)))) (pe_call (ok__law_draw T) (hr.mono (by decide)) (by rfl) T.g__law_draw T.f__law_draw.kp (b__law_draw T) .nil pass0 (pa_cons (pv 2) (pa_cons pe_int pa_nil))) (fun _ _ => rfl))) (pss_cons (ps_set (i := 5) sc_law.nd rfl (by first | exact Or.inl rfl | exact Or.inr rfl) (pe_lc (own := [("_law_row", 11)]) (g := gName 11) (by rfl) sc_law.nd (pi_list (pe_call (ok__law_some T) (hr.mono (by decide)) (by rfl) T.g__law_some T.f__law_some.kp (b__law_some T) .nil pass0 (pa_cons (pv 2) (pa_cons (pe_listRgG (by rfl) (by rfl) T.z_list (prg_1 (by rfl) T.z_range pe_int)) (pa_cons (pv 3) pa_nil))))) (blkOk_by (own := [("_law_row", 11)]) (N := ["_law_script", "_law_index", "_law_source_here", "_law_size", "_law_great", "_law_there", "_law_marks", "_law_many", "_law_clicks_here", "_law_rows", "_law_due", "_law_row", "_law_place"]) (sc := defScope s_law) (by decide +kernel)) (fun _ _ _ _ _ => (pg_name (i := 11) sc_law.nd rfl (by first | exact Or.inl rfl | exact Or.inr rfl))) (fun _ _ _ _ _ => pts_nil) (fun _ _ _ _ _ => (pe_op op_mulW (pv 11) (pv 4))))) (pss_cons (ps_set (i := 6) sc_law.nd rfl (by first | exact Or.inl rfl | exact Or.inr rfl) (pe_callB cr_sortedG (by rfl) T.z_sorted (by decide +kernel) (pa_cons (pe_lc (own := [("_law_row", 11)]) (g := gName 11) (by rfl) sc_law.nd (pi_list (pe_call (ok__law_some T) (hr.mono (by decide)) (by rfl) T.g__law_some T.f__law_some.kp (b__law_some T) .nil pass0 (pa_cons (pv 2) (pa_cons (pe_listRgG (by rfl) (by rfl) T.z_list (prg_1 (by rfl) T.z_range pe_int)) (pa_cons (pe_call (ok__law_draw T) (hr.mono (by decide)) (by rfl) T.g__law_draw T.f__law_draw.kp (b__law_draw T) .nil pass0 (pa_cons (pv 2) (pa_cons pe_int pa_nil))) pa_nil))))) (blkOk_by (own := [("_law_row", 11)]) (N := ["_law_script", "_law_index", "_law_source_here", "_law_size", "_law_great", "_law_there", "_law_marks", "_law_many", "_law_clicks_here", "_law_rows", "_law_due", "_law_row", "_law_place"]) (sc := defScope s_law) (by decide +kernel)) (fun _ _ _ _ _ => (pg_name (i := 11) sc_law.nd rfl (by first | exact Or.inl rfl | exact Or.inr rfl))) (fun _ _ _ _ _ => pts_nil) (fun _ _ _ _ _ => (pe_op op_mulW (pv 11) (pv 4)))) pa_nil))) (pss_cons (ps_set (i := 7) sc_law.nd rfl (by first | exact Or.inl rfl | exact Or.inr rfl) (pe_ix ix_list (pe_lstG (pa_cons pe_int (pa_cons pe_int (pa_cons pe_int pa_nil)))) (pe_call (ok__law_draw T) (hr.mono (by decide)) (by rfl) T.g__law_draw T.f__law_draw.kp (b__law_draw T) .nil pass0 (pa_cons (pv 2) (pa_cons pe_int pa_nil))) (fun _ _ => rfl))) (pss_cons (ps_set (i := 8) sc_law.nd rfl (by first | exact Or.inl rfl | exact Or.inr rfl) (pe_call (ok__law_clicks T) (hr.mono (by decide)) (by rfl) T.g__law_clicks T.f__law_clicks.kp (b__law_clicks T) .nil pass0 (pa_cons (pv 2) (pa_cons (pv 3) (pa_cons (pv 7) pa_nil))))) (pss_cons (ps_if (pt_not (pt_val (pe_callG (ok__law_case_right T) (hr.mono (by decide)) gd (by rfl) T.g__law_case_right T.f__law_case_right.kp (b__law_case_right T) .nil pass0 (pa_cons (pv 2) (pa_cons (pv 5) (pa_cons (pv 6) (pa_cons (pe_call (ok__law_anchor T) (hr.mono (by decide)) (by rfl) T.g__law_anchor T.f__law_anchor.kp (b__law_anchor T) .nil pass0 (pa_cons (pv 2) (pa_cons (pv 5) pa_nil))) (pa_cons (pv 8) pa_nil)))))))) (pss_one (ps_ret pe_bl)) pss_nil) (pss_cons (ps_set (i := 9) sc_law.nd rfl (by first | exact Or.inl rfl | exact Or.inr rfl) (pe_lc (own := [("_law_row", 11)]) (g := gName 11) (by rfl) sc_law.nd (pi_list (pe_call (ok__law_some T) (hr.mono (by decide)) (by rfl) T.g__law_some T.f__law_some.kp (b__law_some T) .nil pass0 (pa_cons (pv 2) (pa_cons (pe_listRgG (by rfl) (by rfl) T.z_list (prg_1 (by rfl) T.z_range pe_int)) (pa_cons (pe_call (ok__law_draw T) (hr.mono (by decide)) (by rfl) T.g__law_draw T.f__law_draw.kp (b__law_draw T) .nil pass0 (pa_cons (pv 2) (pa_cons pe_int pa_nil))) pa_nil))))) (blkOk_by (own := [("_law_row", 11)]) (N := ["_law_script", "_law_index", "_law_source_here", "_law_size", "_law_great", "_law_there", "_law_marks", "_law_many", "_law_clicks_here", "_law_rows", "_law_due", "_law_row", "_law_place"]) (sc := defScope s_law) (by decide +kernel)) (fun _ _ _ _ _ => (pg_name (i := 11) sc_law.nd rfl (by first | exact Or.inl rfl | exact Or.inr rfl))) (fun _ _ _ _ _ => pts_nil) (fun _ _ _ _ _ => (pe_op op_mulW (pv 11) (pv 4))))) (pss_cons (ps_set (i := 9) sc_law.nd rfl (by first | exact Or.inl rfl | exact Or.inr rfl) (pe_op op_catG (pv 9) (pe_slice sl_listG (pv 9) po_none (po_some (pe_call (ok__law_draw T) (hr.mono (by decide)) (by rfl) T.g__law_draw T.f__law_draw.kp (b__law_draw T) .nil pass0 (pa_cons (pv 2) (pa_cons (pe_op op_add (pe_callB call_len_seq (by rfl) T.z_len PySem.boot_len (pa_cons (pv 9) pa_nil)) pe_int) pa_nil))))))) (pss_cons (ps_setLc (i := 10) (own := [("_law_place", 12)]) (g := gName 12) (by rfl) sc_law.nd rfl rfl (sw_true rfl rfl rfl (by decide +kernel)) (pi_range1 (by rfl) T.z_range (pa_cons (pv 3) pa_nil)) (blkOk_by (own := [("_law_place", 12)]) (N := ["_law_script", "_law_index", "_law_source_here", "_law_size", "_law_great", "_law_there", "_law_marks", "_law_many", "_law_clicks_here", "_law_rows", "_law_due", "_law_row", "_law_place"]) (sc := defScope s_law) (by decide +kernel)) (fun _ _ _ _ _ => (pg_name (i := 12) sc_law.nd rfl (by first | exact Or.inl rfl | exact Or.inr rfl))) (fun _ _ _ _ _ => (pts_one (pt_cmpR (opK (r := fun K => rIn K false) (K := K) (by rfl) op_in_seq) (pe_ix (ixK (r := rIxL) (K := K) (by rfl) ix_list) (pv 5) (pv 12) (fun _ _ => rfl)) (pv 9) (by rfl)))) (fun _ _ _ _ _ => (pv 12))) (pss_one (ps_if (PW.pt (pw_or (pt_cmpR op_ne (pe_callB (cr_reprA gd hr.units) (by rfl) T.z_repr (by decide +kernel) (pa_cons (pe_call (ok_positions T) (hr.mono (by decide)) (by rfl) T.g_positions T.f_positions.kp (b_positions T) .nil passL (pa_cons (pv 5) (pa_cons (pv 9) pa_nil))) pa_nil)) (pe_callB (cr_reprA gd hr.units) (by rfl) T.z_repr (by decide +kernel) (pa_cons (pv 10) pa_nil)) (nomark _)) (pw_or1 (pt_cmpR op_ne (pe_callB (cr_reprA gd hr.units) (by rfl) T.z_repr (by decide +kernel) (pa_cons (pe_callK0 (ok_positions T) (hr.mono (by decide)) (by rfl) T.g_positions T.f_positions.kp (kb_positions_0_rows_there T) passL (pk_cons (pv 9) (pk_cons (pv 5) pk_nil))) pa_nil)) (pe_callB (cr_reprA gd hr.units) (by rfl) T.z_repr (by decide +kernel) (pa_cons (pv 10) pa_nil)) (nomark _))))) (pss_one (ps_ret pe_bl)) pss_nil)))))))))))))) (pss_one (ps_ret pe_bl))), ?_⟩
    have em : ∃ c : Nat, (if (if ((sc.map V.int).length : Int) < 3 then ((sc.map V.int).length : Int) else 3) > 1 then (if ((sc.map V.int).length : Int) < 3 then ((sc.map V.int).length : Int) else 3) else 1) = (c : Int) ∧ c ≤ 3 := by
      rw [List.length_map]
      refine ⟨max 1 (min 3 sc.length), ?_, by omega⟩
      split <;> split <;> omega
    obtain ⟨c, ec, c3⟩ := em
    refine ⟨_, rfl, _, _, rfl, .inl hs, _, _, rfl, _, _, rfl, ?_⟩
    rw [ec]
    refine ⟨_, rfl, (by omega), (by omega), for_range (lo := 0) (n := ((c : Int)).toNat) (fun i σ H' => ∃ v1 v2 v3 v4 v5 v6 v7 v8 v9 v10 v11 v12, σ = [some (.ref sa), v1, v2, v3, v4, v5, v6, v7, v8, v9, v10, v11, v12] ∧ SqL K H' sa (sc.map V.int)) ⟨_, _, _, _, _, _, _, _, _, _, _, _, rfl, hs⟩ ?_ ?_⟩
    · rintro i σ H0 hi ⟨v1, v2, v3, v4, v5, v6, v7, v8, v9, v10, v11, v12, rfl, hs0⟩
      -- source
      refine ⟨_, rfl, _, rfl, sa, sc, _, rfl, hs0, by omega, by omega, fun j H1 nj e1 j1 => ?_⟩
      -- size
      refine ⟨_, rfl, j, _, _, rfl, j1, by decide, by decide, by decide, fun d1 H2 d1a d1b e2 j2 => ?_⟩
      refine ⟨_, rfl, j, _, _, rfl, j2, by decide, by decide, by decide, fun d2 H3 d2a d2b e3 j3 => ?_⟩
      refine ⟨(by show 3 ≤ sizeLine; decide), fun p4 H4 n4 e4 h4 => ?_⟩
      have n4j := j3.ne n4
      refine ⟨_, rfl, j, _, _, rfl, j3.ex e4, by decide, by decide, by decide, fun d3 H5 d3a d3b e5 j5 => ?_⟩
      have es : ∃ size : Int, atI [V.int d1, V.int d2, V.int 40] d3 = some (.int size) ∧ 0 ≤ size ∧ size ≤ 40 := by
        rcases (show d3 = 0 ∨ d3 = 1 ∨ d3 = 2 by omega) with z | z | z
        · exact ⟨d1, by rw [z]; exact at0, by omega, by omega⟩
        · exact ⟨d2, by rw [z]; exact at1, by omega, by omega⟩
        · exact ⟨40, by rw [z]; exact at2, by omega, by omega⟩
      obtain ⟨size, es, s0, s1⟩ := es
      refine ⟨_, _, _, _, rfl, rfl, sqI (e5 _ _ n4j h4), es, ?_⟩
      -- great
      refine ⟨_, _, rfl, rfl, (show CPowW 10 50 by constructor <;> decide +kernel), (by show 3 ≤ sizeLine; decide), fun p6 H6 n6 e6 h6 => ?_⟩
      have n6j := j5.ne n6
      refine ⟨_, rfl, j, _, _, rfl, j5.ex e6, by decide, by decide, by decide, fun d4 H7 d4a d4b e7 j7 => ?_⟩
      have eg : ∃ g : Int, atI [V.int 1, V.int 1, V.int (10 ^ (50 : Int).toNat)] d4 = some (.int g) ∧ 1 ≤ g ∧ g < 2 ^ 200 := by
        rcases (show d4 = 0 ∨ d4 = 1 ∨ d4 = 2 by omega) with z | z | z
        · exact ⟨1, by rw [z]; exact at0, by omega, by omega⟩
        · exact ⟨1, by rw [z]; exact at1, by omega, by omega⟩
        · exact ⟨10 ^ (50 : Int).toNat, by rw [z]; exact at2, by decide +kernel, by decide +kernel⟩
      obtain ⟨g, eg, g0, g1⟩ := eg
      refine ⟨_, _, _, _, rfl, rfl, sqI (e7 _ _ n6j h6), eg, ?_⟩
      have x7 : Exj j H1 H7 := e2.trans (e3.trans ((Exj.of e4).trans (e5.trans ((Exj.of e6).trans e7))))
      -- there
      refine ⟨_, rfl, _, rfl, rg_ok 40 (by decide), fun p8 H8 n8 e8 h8 => ?_⟩
      change H8 p8 = some (.lst (rgV 0 ((40 : Nat) : Int))) at h8
      rw [rgV_upN 40] at h8
      refine ⟨_, rfl, j, p8, _, _, _, rfl, j7.ex e8, by decide, sqI h8, (by rw [upN_len]; decide), by omega, by omega, fun p9 H9 ts9 ls9 n9 e9 n9j j9 h9 pm9 tl9 => ?_⟩
      rw [upN_len] at tl9
      have bd9 := upN_bd pm9 (by decide)
      have mulC : ∀ {ts : List Int} (_ : ∀ t ∈ ts, 0 ≤ t ∧ t < 100) {i : Nat} {x y : V}, (ts.map V.int)[i]? = some x → ((ts.map (· * g)).map V.int)[i]? = some y → ∃ t, x = .int t ∧ y = .int (t * g) ∧ CMulW t g := fun {ts} hb {i x y} hx hy => by
        obtain ⟨t, ht, rfl⟩ := mapI_get hx
        rw [List.map_map, List.getElem?_map, ht] at hy
        have hm := hb t (List.mem_of_getElem? ht)
        exact ⟨t, rfl, (Option.some.inj hy).symm, mul_ok hm.1 hm.2 g0 g1⟩
      refine ⟨p9, rfl, ⟨_, sqI h9⟩, fun D10 n10 => lc_mapL (K := K) (a := p9) (xs := ts9.map V.int) (ys := (ts9.map (· * g)).map V.int) (j := 11) (sqI h9) n10 (by simp) (by rw [List.length_map]; exact Nat.le_trans (show ts9.length ≤ 40 by omega) (by decide)) (fun x => rfl) ?_ (fun H10 e10 h10 => ?_)⟩
      · intro i x y H' _ hx hy R hR
        obtain ⟨t, rfl, rfl, ok⟩ := mulC bd9 hx hy
        exact ⟨_, rfl, _, rfl, _, _, rfl, rfl, ok, hR _ (Evl.Ex.refl _)⟩
      have n10j := j9.ne n10
      have nd9 := mul_nodup (some_nodup pm9 (upN_nodup 40)) g0
      have b9 := mul_bd bd9 g0 g1
      have l9 : (ts9.map (· * g)).length = size.toNat := by rw [List.length_map]; omega
      generalize ts9.map (· * g) = there at h10 nd9 b9 l9
      have j10 := j9.ex e10
      have x10 : Exj j H1 H10 := x7.trans ((Exj.of e8).trans (e9.trans (Exj.of e10)))
      -- marks
      refine ⟨_, rfl, _, rfl, rg_ok 45 (by decide), fun p11 H11 n11 e11 h11 => ?_⟩
      change H11 p11 = some (.lst (rgV 0 ((45 : Nat) : Int))) at h11
      rw [rgV_upN 45] at h11
      have n11j := j10.ne n11
      refine ⟨_, rfl, j, _, _, rfl, j10.ex e11, by decide, by decide, by decide, fun d5 H12 d5a d5b e12 j12 => ?_⟩
      refine ⟨j, p11, _, _, _, rfl, j12, by decide, sqI (e12 _ _ n11j h11), (by rw [upN_len]; decide), by omega, by omega, fun p13 H13 ts13 ls13 n13 e13 n13j j13 h13 pm13 tl13 => ?_⟩
      rw [upN_len] at tl13
      have bd13 := upN_bd pm13 (by decide)
      refine ⟨p13, rfl, ⟨_, sqI h13⟩, fun D14 n14 => lc_mapL (K := K) (a := p13) (xs := ts13.map V.int) (ys := (ts13.map (· * g)).map V.int) (j := 11) (sqI h13) n14 (by simp) (by rw [List.length_map]; exact Nat.le_trans (show ts13.length ≤ 45 by omega) (by decide)) (fun x => rfl) ?_ (fun H14 e14 h14 => ?_)⟩
      · intro i x y H' _ hx hy R hR
        obtain ⟨t, rfl, rfl, ok⟩ := mulC bd13 hx hy
        exact ⟨_, rfl, _, rfl, _, _, rfl, rfl, ok, hR _ (Evl.Ex.refl _)⟩
      have nd13 := mul_nodup (some_nodup pm13 (upN_nodup 45)) g0
      have b13 := mul_bd bd13 g0 g1
      have l13 : (ts13.map (· * g)).length ≤ 45 := by rw [List.length_map]; omega
      generalize ts13.map (· * g) = ms0 at h14 nd13 b13 l13
      refine ⟨D14, ms0, rfl, sqI h14, fun ms hpm hsm p15 H15 n15 e15 h15 => ?_⟩
      have j14 := j13.ex e14
      have j15 := j14.ex e15
      have n15j := j14.ne n15
      have mpw : ms.Pairwise (· < ·) := asc_of hpm hsm nd13
      have ml : ms.length ≤ 1000 := by
        have := hpm.length_eq
        omega
      have mb : Bd 300 ms := fun r hr => b13 r (hpm.mem_iff.mp hr)
      have y15 : Exj j H10 H15 := (Exj.of e11).trans (e12.trans (e13.trans (Exj.of (e14.trans e15))))
      have ht15 := y15 _ _ n10j h10
      -- many
      refine ⟨(by show 3 ≤ sizeLine; decide), fun p16 H16 n16 e16 h16 => ?_⟩
      have n16j := j15.ne n16
      refine ⟨_, rfl, j, _, _, rfl, j15.ex e16, by decide, by decide, by decide, fun d6 H17 d6a d6b e17 j17 => ?_⟩
      have en : ∃ many : Int, atI [V.int 10, V.int 10, V.int 60] d6 = some (.int many) ∧ 0 ≤ many ∧ many ≤ 60 := by
        rcases (show d6 = 0 ∨ d6 = 1 ∨ d6 = 2 by omega) with z | z | z
        · exact ⟨10, by rw [z]; exact at0, by omega, by omega⟩
        · exact ⟨10, by rw [z]; exact at1, by omega, by omega⟩
        · exact ⟨60, by rw [z]; exact at2, by omega, by omega⟩
      obtain ⟨many, en, mn0, mn1⟩ := en
      refine ⟨_, _, _, _, rfl, rfl, sqI (e17 _ _ n16j h16), en, ?_⟩
      -- clicks
      refine ⟨_, rfl, _, rfl, _, rfl, j, _, _, _, rfl, j17, by decide, by omega, by omega, by omega, by omega, fun p18 H18 xs cs n18 e18 n18j j18 h18 hc18 ok18 lc18 => ?_⟩
      have y18 : Exj j H15 H18 := (Exj.of e16).trans (e17.trans e18)
      have ht18 := y18 _ _ n10j ht15
      have hm18 := y18 _ _ n15j h15
      -- if not case_right(..)
      refine ⟨_, rfl, _, rfl, _, rfl, _, rfl, _, rfl, j, D10, _, there, rfl, j18, by decide, ht18, n10j, by omega, b9, fun an H19 ba e19 j19 => ?_⟩
      refine ⟨_, rfl, j, D10, p15, p18, _, there, ms, xs, cs, an, rfl, j19, by decide, n10j, n15j, n18j, e19 _ _ n10j ht18, e19 _ _ n15j hm18, e19 _ _ n18j h18, nd9, by omega, mpw, ml, hc18.exj e19 j18, (by rw [l9]; exact ok18), lc18, b9, mb, ba, fun H20 e20 j20 => ?_⟩
      refine ⟨_, rfl, ifF rfl ?_⟩
      have ht20 := e20 _ _ n10j (e19 _ _ n10j ht18)
      have x20 : Exj j H1 H20 := x10.trans (y15.trans (y18.trans (e19.trans e20)))
      -- rows
      refine ⟨_, rfl, _, rfl, rg_ok 45 (by decide), fun p21 H21 n21 e21 h21 => ?_⟩
      change H21 p21 = some (.lst (rgV 0 ((45 : Nat) : Int))) at h21
      rw [rgV_upN 45] at h21
      have n21j := j20.ne n21
      refine ⟨_, rfl, j, _, _, rfl, j20.ex e21, by decide, by decide, by decide, fun d7 H22 d7a d7b e22 j22 => ?_⟩
      refine ⟨j, p21, _, _, _, rfl, j22, by decide, sqI (e22 _ _ n21j h21), (by rw [upN_len]; decide), by omega, by omega, fun p23 H23 ts23 ls23 n23 e23 n23j j23 h23 pm23 tl23 => ?_⟩
      rw [upN_len] at tl23
      have bd23 := upN_bd pm23 (by decide)
      refine ⟨p23, rfl, ⟨_, sqI h23⟩, fun D24 n24 => lc_mapL (K := K) (a := p23) (xs := ts23.map V.int) (ys := (ts23.map (· * g)).map V.int) (j := 11) (sqI h23) n24 (by simp) (by rw [List.length_map]; exact Nat.le_trans (show ts23.length ≤ 45 by omega) (by decide)) (fun x => rfl) ?_ (fun H24 e24 h24 => ?_)⟩
      · intro i x y H' _ hx hy R hR
        obtain ⟨t, rfl, rfl, ok⟩ := mulC bd23 hx hy
        exact ⟨_, rfl, _, rfl, _, _, rfl, rfl, ok, hR _ (Evl.Ex.refl _)⟩
      have l23 : (ts23.map (· * g)).length ≤ 45 := by rw [List.length_map]; omega
      generalize ts23.map (· * g) = r0 at h24 l23
      have j24 := j23.ex e24
      have n24j := j23.ne n24
      refine ⟨_, rfl, _, rfl, _, rfl, _, rfl, _, _, rfl, .inl (sqI h24), _, _, rfl, rfl, j, _, _, rfl, j24, by decide, ?_, ?_, fun d8 H25 d8a d8b e25 j25 => ?_⟩
      · rw [List.length_map]
        omega
      · rw [List.length_map]
        omega
      have h25 := e25 _ _ n24j h24
      refine ⟨_, rfl, _, _, rfl, sqI h25, fun p26 H26 n26 e26 h26 => ?_⟩
      obtain ⟨nn, rfl⟩ : ∃ nn : Nat, d8 = (nn : Int) := ⟨d8.toNat, by omega⟩
      rw [cut_to, ← List.map_take] at h26
      refine ⟨_, _, _, _, rfl, rfl, e26 _ _ h25, h26, ?_, fun p27 H27 n27 e27 h27 => ?_⟩
      · rw [List.length_map, List.length_map, List.length_take]
        exact Nat.le_trans (show _ ≤ 100 by omega) (by decide)
      rw [← List.map_append] at h27
      generalize r0 ++ r0.take nn = rows at h27
      have y27 : Exj j H20 H27 := (Exj.of e21).trans (e22.trans (e23.trans ((Exj.of e24).trans (e25.trans (Exj.of (e26.trans e27))))))
      have ht27 := y27 _ _ n10j ht20
      have sN : ((size.toNat : Nat) : Int) = size := by omega
      -- due
      refine ⟨_, rfl, _, rfl, (by omega), (by omega), fun D28 n28 => lc_range (lo := 0) (n := size.toNat) (fun i H' => Ex H27 H' ∧ H' D28 = some (.lst ((((List.range i).filter fun i => decide (there.getD i 0 ∈ rows)).map fun i => ((i : Nat) : Int)).map V.int))) ⟨Evl.Ex.new n28, upd_same⟩ ?_ ?_⟩
      · rintro i H' hi ⟨e', d'⟩
        have ht : there[i]? = some (there[i]'(by omega)) := List.getElem?_eq_getElem (by omega)
        generalize there[i]'(by omega) = t at ht
        have ge : there.getD i 0 = t := by rw [List.getD_eq_getElem?_getD, ht]; rfl
        refine ⟨rfl, ?_⟩
        show _
        refine ⟨_, rfl, _, rfl, _, _, _, _, rfl, rfl, sqI (e' _ _ ht27), at_of (j := i) (by omega) (by rw [List.getElem?_map, ht]; rfl), _, rfl, _, _, rfl, .inl (sqI (e' _ _ h27)), rfl, flatI rows, _, rfl, ?_⟩
        show if inV (V.int t) (rows.map V.int) = true then _ else _
        rw [inV_int, List.range_succ, List.filter_append]
        refine ifB (fun c => ?_) (fun c => ?_)
        · refine ⟨_, rfl, _, d', ?_, Evl.Ex.mut e' n28, ?_⟩
          · rw [List.length_map, List.length_map]
            refine Nat.lt_of_le_of_lt (List.length_filter_le _ _) ?_
            rw [List.length_range]
            exact Nat.lt_of_lt_of_le (show i < 1000 by omega) (by decide)
          · rw [upd_same, List.filter_cons, ge, c, List.map_append, List.map_append]
            show _ = some (HO.lst (_ ++ [V.int (i : Int)]))
            rw [Int.zero_add]
        · refine ⟨e', ?_⟩
          rw [List.filter_cons, ge, c, d']
          simp
      rintro H28 ⟨e28, d28⟩
      rw [← l9] at d28
      change H28 D28 = some (.lst ((posns there rows).map V.int)) at d28
      have ht28 := e28 _ _ ht27
      have hr28 := e28 _ _ h27
      have pb : Shw (eL PyData.int (posns there rows)) 60 sizeLine := by
        have pl : (posns there rows).length ≤ 1000 := by
          unfold posns
          rw [List.length_map]
          refine Nat.le_trans (List.length_filter_le _ _) ?_
          rw [List.length_range]
          omega
        refine (Shw.ints (b := 300) (by decide) fun r hr => ?_).mono (by decide) (Nat.le_trans (show _ ≤ 2 + 1000 * 1923 by omega) (by decide))
        unfold posns at hr
        obtain ⟨i, hi, rfl⟩ := List.mem_map.mp hr
        have := List.mem_range.mp (List.mem_filter.mp hi).1
        omega
      refine ⟨_, rfl, _, rfl, D10, p27, there, rows, rfl, sqI ht28, sqI hr28, nd9, by omega, fun p29 H29 n29 e29 h29 => ?_⟩
      refine ⟨_, _, rfl, dpL (sqI h29), pb, _, rfl, _, _, rfl, dpL (sqI (e29 _ _ d28)), pb, rfl, _, rfl, ifF (nef rfl) ?_⟩
      refine ⟨_, rfl, _, rfl, D10, p27, there, rows, rfl, sqI (e29 _ _ ht28), sqI (e29 _ _ hr28), nd9, by omega, fun p30 H30 n30 e30 h30 => ?_⟩
      refine ⟨_, _, rfl, dpL (sqI h30), pb, _, rfl, _, _, rfl, dpL (sqI (e30 _ _ (e29 _ _ d28))), pb, rfl, _, rfl, ifF (nef rfl) ?_⟩
      have all : Ex H0 H30 := Exj.exOf e1 nj (x20.trans (y27.trans (Exj.of (e28.trans (e29.trans e30)))))
      exact ⟨_, _, _, _, _, _, _, _, _, _, _, _, rfl, Evl.ex_l all hs0⟩
    · rintro σ H' ⟨v1, v2, v3, v4, v5, v6, v7, v8, v9, v10, v11, v12, rfl, hs'⟩
      exact k H'
end
end K26
set_option Elab.async false
set_option linter.all false
set_option maxRecDepth 100000
set_option maxHeartbeats 4000000
namespace K26
open PySem L2 My
theorem all_mk {K : PySem.W.Frag} {h : Heap} {mg : Str → Option Value} (X : K.In h) (G : h.Ns mainGlobals mg)
    {f0 : Addr} {od0 an0 : Option Addr} {sl0 : Array (Option Value)} {oc0 kV0 dc0 pm0 cd0 ct0 : Value}
    (a0 : PySem.W.nsIn K mainGlobals "check_there" = some (some (.ref f0))) (l0 : K.lookup f0 = some ⟨oc0, od0, .func (PySem.W.fnOf "check_there" "check_there" (defArgs s_check_there) (defBody s_check_there) (defScope s_check_there) .none kV0 dc0 pm0 an0 cd0 ct0), sl0⟩) (c0 : PySem.W.codeIn K cd0 "check_there" = true) (k0 : PySem.W.keepIn K (.ref f0) = true)
    {f1 : Addr} {od1 an1 : Option Addr} {sl1 : Array (Option Value)} {oc1 kV1 dc1 pm1 cd1 ct1 : Value}
    (a1 : PySem.W.nsIn K mainGlobals "are_marks" = some (some (.ref f1))) (l1 : K.lookup f1 = some ⟨oc1, od1, .func (PySem.W.fnOf "are_marks" "are_marks" (defArgs s_are_marks) (defBody s_are_marks) (defScope s_are_marks) .none kV1 dc1 pm1 an1 cd1 ct1), sl1⟩) (c1 : PySem.W.codeIn K cd1 "are_marks" = true) (k1 : PySem.W.keepIn K (.ref f1) = true)
    {f2 : Addr} {od2 an2 : Option Addr} {sl2 : Array (Option Value)} {oc2 kV2 dc2 pm2 cd2 ct2 : Value}
    (a2 : PySem.W.nsIn K mainGlobals "check_marks" = some (some (.ref f2))) (l2 : K.lookup f2 = some ⟨oc2, od2, .func (PySem.W.fnOf "check_marks" "check_marks" (defArgs s_check_marks) (defBody s_check_marks) (defScope s_check_marks) .none kV2 dc2 pm2 an2 cd2 ct2), sl2⟩) (c2 : PySem.W.codeIn K cd2 "check_marks" = true) (k2 : PySem.W.keepIn K (.ref f2) = true)
    {f3 : Addr} {od3 an3 : Option Addr} {sl3 : Array (Option Value)} {oc3 kV3 dc3 pm3 cd3 ct3 : Value}
    (a3 : PySem.W.nsIn K mainGlobals "check_clicks" = some (some (.ref f3))) (l3 : K.lookup f3 = some ⟨oc3, od3, .func (PySem.W.fnOf "check_clicks" "check_clicks" (defArgs s_check_clicks) (defBody s_check_clicks) (defScope s_check_clicks) .none kV3 dc3 pm3 an3 cd3 ct3), sl3⟩) (c3 : PySem.W.codeIn K cd3 "check_clicks" = true) (k3 : PySem.W.keepIn K (.ref f3) = true)
    {f4 : Addr} {od4 an4 : Option Addr} {sl4 : Array (Option Value)} {oc4 kV4 dc4 pm4 cd4 ct4 : Value}
    (a4 : PySem.W.nsIn K mainGlobals "places_of" = some (some (.ref f4))) (l4 : K.lookup f4 = some ⟨oc4, od4, .func (PySem.W.fnOf "places_of" "places_of" (defArgs s_places_of) (defBody s_places_of) (defScope s_places_of) .none kV4 dc4 pm4 an4 cd4 ct4), sl4⟩) (c4 : PySem.W.codeIn K cd4 "places_of" = true) (k4 : PySem.W.keepIn K (.ref f4) = true)
    {f5 : Addr} {od5 an5 : Option Addr} {sl5 : Array (Option Value)} {oc5 kV5 dc5 pm5 cd5 ct5 : Value}
    (a5 : PySem.W.nsIn K mainGlobals "marked_in" = some (some (.ref f5))) (l5 : K.lookup f5 = some ⟨oc5, od5, .func (PySem.W.fnOf "marked_in" "marked_in" (defArgs s_marked_in) (defBody s_marked_in) (defScope s_marked_in) .none kV5 dc5 pm5 an5 cd5 ct5), sl5⟩) (c5 : PySem.W.codeIn K cd5 "marked_in" = true) (k5 : PySem.W.keepIn K (.ref f5) = true)
    {f6 : Addr} {od6 an6 : Option Addr} {sl6 : Array (Option Value)} {oc6 kV6 dc6 pm6 cd6 ct6 : Value}
    (a6 : PySem.W.nsIn K mainGlobals "check_state" = some (some (.ref f6))) (l6 : K.lookup f6 = some ⟨oc6, od6, .func (PySem.W.fnOf "check_state" "check_state" (defArgs s_check_state) (defBody s_check_state) (defScope s_check_state) .none kV6 dc6 pm6 an6 cd6 ct6), sl6⟩) (c6 : PySem.W.codeIn K cd6 "check_state" = true) (k6 : PySem.W.keepIn K (.ref f6) = true)
    {f7 : Addr} {od7 an7 : Option Addr} {sl7 : Array (Option Value)} {oc7 kV7 dc7 pm7 cd7 ct7 : Value}
    (a7 : PySem.W.nsIn K mainGlobals "marked" = some (some (.ref f7))) (l7 : K.lookup f7 = some ⟨oc7, od7, .func (PySem.W.fnOf "marked" "marked" (defArgs s_marked) (defBody s_marked) (defScope s_marked) .none kV7 dc7 pm7 an7 cd7 ct7), sl7⟩) (c7 : PySem.W.codeIn K cd7 "marked" = true) (k7 : PySem.W.keepIn K (.ref f7) = true)
    {f8 : Addr} {od8 an8 : Option Addr} {sl8 : Array (Option Value)} {oc8 kV8 dc8 pm8 cd8 ct8 : Value}
    (a8 : PySem.W.nsIn K mainGlobals "positions" = some (some (.ref f8))) (l8 : K.lookup f8 = some ⟨oc8, od8, .func (PySem.W.fnOf "positions" "positions" (defArgs s_positions) (defBody s_positions) (defScope s_positions) .none kV8 dc8 pm8 an8 cd8 ct8), sl8⟩) (c8 : PySem.W.codeIn K cd8 "positions" = true) (k8 : PySem.W.keepIn K (.ref f8) = true)
    {f9 : Addr} {od9 an9 : Option Addr} {sl9 : Array (Option Value)} {oc9 kV9 dc9 pm9 cd9 ct9 : Value}
    (a9 : PySem.W.nsIn K mainGlobals "anchor_after" = some (some (.ref f9))) (l9 : K.lookup f9 = some ⟨oc9, od9, .func (PySem.W.fnOf "anchor_after" "anchor_after" (defArgs s_anchor_after) (defBody s_anchor_after) (defScope s_anchor_after) .none kV9 dc9 pm9 an9 cd9 ct9), sl9⟩) (c9 : PySem.W.codeIn K cd9 "anchor_after" = true) (k9 : PySem.W.keepIn K (.ref f9) = true)
    {f10 : Addr} {od10 an10 : Option Addr} {sl10 : Array (Option Value)} {oc10 kV10 dc10 pm10 cd10 ct10 : Value}
    (a10 : PySem.W.nsIn K mainGlobals "_law_source" = some (some (.ref f10))) (l10 : K.lookup f10 = some ⟨oc10, od10, .func (PySem.W.fnOf "_law_source" "_law_source" (defArgs s__law_source) (defBody s__law_source) (defScope s__law_source) .none kV10 dc10 pm10 an10 cd10 ct10), sl10⟩) (c10 : PySem.W.codeIn K cd10 "_law_source" = true) (k10 : PySem.W.keepIn K (.ref f10) = true)
    {f11 : Addr} {od11 an11 : Option Addr} {sl11 : Array (Option Value)} {oc11 kV11 dc11 pm11 cd11 ct11 : Value}
    (a11 : PySem.W.nsIn K mainGlobals "_law_draw" = some (some (.ref f11))) (l11 : K.lookup f11 = some ⟨oc11, od11, .func (PySem.W.fnOf "_law_draw" "_law_draw" (defArgs s__law_draw) (defBody s__law_draw) (defScope s__law_draw) .none kV11 dc11 pm11 an11 cd11 ct11), sl11⟩) (c11 : PySem.W.codeIn K cd11 "_law_draw" = true) (k11 : PySem.W.keepIn K (.ref f11) = true)
    {f12 : Addr} {od12 an12 : Option Addr} {sl12 : Array (Option Value)} {oc12 kV12 dc12 pm12 cd12 ct12 : Value}
    (a12 : PySem.W.nsIn K mainGlobals "_law_some" = some (some (.ref f12))) (l12 : K.lookup f12 = some ⟨oc12, od12, .func (PySem.W.fnOf "_law_some" "_law_some" (defArgs s__law_some) (defBody s__law_some) (defScope s__law_some) .none kV12 dc12 pm12 an12 cd12 ct12), sl12⟩) (c12 : PySem.W.codeIn K cd12 "_law_some" = true) (k12 : PySem.W.keepIn K (.ref f12) = true)
    {f13 : Addr} {od13 an13 : Option Addr} {sl13 : Array (Option Value)} {oc13 kV13 dc13 pm13 cd13 ct13 : Value}
    (a13 : PySem.W.nsIn K mainGlobals "_law_clicks" = some (some (.ref f13))) (l13 : K.lookup f13 = some ⟨oc13, od13, .func (PySem.W.fnOf "_law_clicks" "_law_clicks" (defArgs s__law_clicks) (defBody s__law_clicks) (defScope s__law_clicks) .none kV13 dc13 pm13 an13 cd13 ct13), sl13⟩) (c13 : PySem.W.codeIn K cd13 "_law_clicks" = true) (k13 : PySem.W.keepIn K (.ref f13) = true)
    {f14 : Addr} {od14 an14 : Option Addr} {sl14 : Array (Option Value)} {oc14 kV14 dc14 pm14 cd14 ct14 : Value}
    (a14 : PySem.W.nsIn K mainGlobals "_law_done" = some (some (.ref f14))) (l14 : K.lookup f14 = some ⟨oc14, od14, .func (PySem.W.fnOf "_law_done" "_law_done" (defArgs s__law_done) (defBody s__law_done) (defScope s__law_done) .none kV14 dc14 pm14 an14 cd14 ct14), sl14⟩) (c14 : PySem.W.codeIn K cd14 "_law_done" = true) (k14 : PySem.W.keepIn K (.ref f14) = true)
    {f15 : Addr} {od15 an15 : Option Addr} {sl15 : Array (Option Value)} {oc15 kV15 dc15 pm15 cd15 ct15 : Value}
    (a15 : PySem.W.nsIn K mainGlobals "_law_anchor" = some (some (.ref f15))) (l15 : K.lookup f15 = some ⟨oc15, od15, .func (PySem.W.fnOf "_law_anchor" "_law_anchor" (defArgs s__law_anchor) (defBody s__law_anchor) (defScope s__law_anchor) .none kV15 dc15 pm15 an15 cd15 ct15), sl15⟩) (c15 : PySem.W.codeIn K cd15 "_law_anchor" = true) (k15 : PySem.W.keepIn K (.ref f15) = true)
    {f16 : Addr} {od16 an16 : Option Addr} {sl16 : Array (Option Value)} {oc16 kV16 dc16 pm16 cd16 ct16 : Value}
    (a16 : PySem.W.nsIn K mainGlobals "_law_case_right" = some (some (.ref f16))) (l16 : K.lookup f16 = some ⟨oc16, od16, .func (PySem.W.fnOf "_law_case_right" "_law_case_right" (defArgs s__law_case_right) (defBody s__law_case_right) (defScope s__law_case_right) .none kV16 dc16 pm16 an16 cd16 ct16), sl16⟩) (c16 : PySem.W.codeIn K cd16 "_law_case_right" = true) (k16 : PySem.W.keepIn K (.ref f16) = true)
    {f17 : Addr} {od17 an17 : Option Addr} {sl17 : Array (Option Value)} {oc17 kV17 dc17 pm17 cd17 ct17 : Value}
    (a17 : PySem.W.nsIn K mainGlobals "law" = some (some (.ref f17))) (l17 : K.lookup f17 = some ⟨oc17, od17, .func (PySem.W.fnOf "law" "law" (defArgs s_law) (defBody s_law) (defScope s_law) .none kV17 dc17 pm17 an17 cd17 ct17), sl17⟩) (c17 : PySem.W.codeIn K cd17 "law" = true) (k17 : PySem.W.keepIn K (.ref f17) = true)
    {cD : Addr} {fI cI cdI : Addr} {ocI clI cclI : Value} {odI cldI cddI anI : Option Addr} {kVI docI pmI ctI : Value} {oslI cslI ccsI : Array (Option Value)} {vsI : Array Value} {flI : Str} {tfI : Tok} {cdD : ClassData}
    (aW : PySem.W.nsIn K mainGlobals "WindowError" = some (some (.ref cD))) (iI : PySem.W.findIn K (.ref cD) "__init__" = some (some (.ref fI)))
    (lI : K.lookup fI = some ⟨ocI, odI, .func (PySem.W.fnX "__init__" "WindowError.__init__" (defArgs s_init) (defBody s_init) (defScope s_init) [("__class__", cI)] .none kVI docI pmI anI (.ref cdI) ctI), oslI⟩) (qI : PySem.W.codeIn K (.ref cdI) "WindowError.__init__" = true)
    (ceI : K.lookup cI = some ⟨clI, cldI, .cell (some (.ref cD)), cslI⟩) (fiI : K.lookup cdI = some ⟨cclI, cddI, .fields vsI, ccsI⟩) (viI : vsI[2]? = some (.str flI tfI)) (wiI : ((PR.main.file : Str) == flI) = true) (clD : PySem.W.clsIn K cD = some cdD) (suI : PySem.W.nsIn K mainGlobals "super" = some none)
    (opI : PySem.W.nsIn K cStatics "thirdparty.any" = some none) (tyI : PySem.W.typeIn K (.ref fI) = some (.type "function"))
    {e0 : Addr} {nme0 qe0 : Str} {Ne0 : Addr} {bse0 : List Value} {sne0 : List Str} {sube0 : List Value} {abe0 : Bool} {cole0 : Option Bool} {dde0 : Option Addr} {m0e0 m1e0 m2e0 m3e0 m5e0 : Option Value}
    (aCe0 : PySem.W.nsIn K mainGlobals "WindowError" = some (some (.ref e0))) (xLe0 : K.lookup e0 = some (excClassObj nme0 qe0 e0 Ne0 bse0 PySem.HandSPX.veTail true sne0 sube0 abe0 cole0 dde0 m0e0 m1e0 m2e0 m3e0 m5e0 "ValueError.__new__")) (rve0 : e0 = cD)
    (sae0 : PySem.W.findIn K (.ref e0) "__setattr__" = some (some (.builtin "object.__setattr__"))) (gae0 : PySem.W.findIn K (.ref e0) "__getattribute__" = some (some (.builtin "BaseException.__getattribute__"))) (gge0 : PySem.W.findIn K (.ref e0) "__getattr__" = some none) (nve0 : PySem.W.findIn K (.ref e0) "value" = some none) (ine0 : PySem.W.findIn K (.ref e0) "__init__" = some (some (.ref fI)))
    (kCe0 : PySem.W.keepIn K (.ref e0) = true) (eCe0 : PySem.W.subIn K (.ref e0) (.type "BaseException") = some true) (tCe0 : PySem.W.typeIn K (.ref e0) = some (.type "type")) (hCe0 : PySem.W.hasDictIn K e0 = true) (mre0 : PySem.W.mroIn K e0 (.ref cD) = some true) (ice0 : PySem.W.isClsIn K e0 = true) (sve0 : PySem.W.subIn K (.ref e0) (.type "ValueError") = some true)
    {e1 : Addr} {nme1 qe1 : Str} {Ne1 : Addr} {bse1 : List Value} {sne1 : List Str} {sube1 : List Value} {abe1 : Bool} {cole1 : Option Bool} {dde1 : Option Addr} {m0e1 m1e1 m2e1 m3e1 m5e1 : Option Value}
    (aCe1 : PySem.W.nsIn K mainGlobals "InvalidRows" = some (some (.ref e1))) (xLe1 : K.lookup e1 = some (excClassObj nme1 qe1 e1 Ne1 bse1 (.ref cD :: PySem.HandSPX.veTail) true sne1 sube1 abe1 cole1 dde1 m0e1 m1e1 m2e1 m3e1 m5e1 "ValueError.__new__")) (rve1 : (e1 == cD) = false)
    (sae1 : PySem.W.findIn K (.ref e1) "__setattr__" = some (some (.builtin "object.__setattr__"))) (gae1 : PySem.W.findIn K (.ref e1) "__getattribute__" = some (some (.builtin "BaseException.__getattribute__"))) (gge1 : PySem.W.findIn K (.ref e1) "__getattr__" = some none) (nve1 : PySem.W.findIn K (.ref e1) "value" = some none) (ine1 : PySem.W.findIn K (.ref e1) "__init__" = some (some (.ref fI)))
    (kCe1 : PySem.W.keepIn K (.ref e1) = true) (eCe1 : PySem.W.subIn K (.ref e1) (.type "BaseException") = some true) (tCe1 : PySem.W.typeIn K (.ref e1) = some (.type "type")) (hCe1 : PySem.W.hasDictIn K e1 = true) (mre1 : PySem.W.mroIn K e1 (.ref cD) = some true) (ice1 : PySem.W.isClsIn K e1 = true) (sve1 : PySem.W.subIn K (.ref e1) (.type "ValueError") = some true)
    {e2 : Addr} {nme2 qe2 : Str} {Ne2 : Addr} {bse2 : List Value} {sne2 : List Str} {sube2 : List Value} {abe2 : Bool} {cole2 : Option Bool} {dde2 : Option Addr} {m0e2 m1e2 m2e2 m3e2 m5e2 : Option Value}
    (aCe2 : PySem.W.nsIn K mainGlobals "InvalidPosition" = some (some (.ref e2))) (xLe2 : K.lookup e2 = some (excClassObj nme2 qe2 e2 Ne2 bse2 (.ref cD :: PySem.HandSPX.veTail) true sne2 sube2 abe2 cole2 dde2 m0e2 m1e2 m2e2 m3e2 m5e2 "ValueError.__new__")) (rve2 : (e2 == cD) = false)
    (sae2 : PySem.W.findIn K (.ref e2) "__setattr__" = some (some (.builtin "object.__setattr__"))) (gae2 : PySem.W.findIn K (.ref e2) "__getattribute__" = some (some (.builtin "BaseException.__getattribute__"))) (gge2 : PySem.W.findIn K (.ref e2) "__getattr__" = some none) (nve2 : PySem.W.findIn K (.ref e2) "value" = some none) (ine2 : PySem.W.findIn K (.ref e2) "__init__" = some (some (.ref fI)))
    (kCe2 : PySem.W.keepIn K (.ref e2) = true) (eCe2 : PySem.W.subIn K (.ref e2) (.type "BaseException") = some true) (tCe2 : PySem.W.typeIn K (.ref e2) = some (.type "type")) (hCe2 : PySem.W.hasDictIn K e2 = true) (mre2 : PySem.W.mroIn K e2 (.ref cD) = some true) (ice2 : PySem.W.isClsIn K e2 = true) (sve2 : PySem.W.subIn K (.ref e2) (.type "ValueError") = some true)
    {e3 : Addr} {nme3 qe3 : Str} {Ne3 : Addr} {bse3 : List Value} {sne3 : List Str} {sube3 : List Value} {abe3 : Bool} {cole3 : Option Bool} {dde3 : Option Addr} {m0e3 m1e3 m2e3 m3e3 m5e3 : Option Value}
    (aCe3 : PySem.W.nsIn K mainGlobals "InvalidMarks" = some (some (.ref e3))) (xLe3 : K.lookup e3 = some (excClassObj nme3 qe3 e3 Ne3 bse3 (.ref cD :: PySem.HandSPX.veTail) true sne3 sube3 abe3 cole3 dde3 m0e3 m1e3 m2e3 m3e3 m5e3 "ValueError.__new__")) (rve3 : (e3 == cD) = false)
    (sae3 : PySem.W.findIn K (.ref e3) "__setattr__" = some (some (.builtin "object.__setattr__"))) (gae3 : PySem.W.findIn K (.ref e3) "__getattribute__" = some (some (.builtin "BaseException.__getattribute__"))) (gge3 : PySem.W.findIn K (.ref e3) "__getattr__" = some none) (nve3 : PySem.W.findIn K (.ref e3) "value" = some none) (ine3 : PySem.W.findIn K (.ref e3) "__init__" = some (some (.ref fI)))
    (kCe3 : PySem.W.keepIn K (.ref e3) = true) (eCe3 : PySem.W.subIn K (.ref e3) (.type "BaseException") = some true) (tCe3 : PySem.W.typeIn K (.ref e3) = some (.type "type")) (hCe3 : PySem.W.hasDictIn K e3 = true) (mre3 : PySem.W.mroIn K e3 (.ref cD) = some true) (ice3 : PySem.W.isClsIn K e3 = true) (sve3 : PySem.W.subIn K (.ref e3) (.type "ValueError") = some true)
    {e4 : Addr} {nme4 qe4 : Str} {Ne4 : Addr} {bse4 : List Value} {sne4 : List Str} {sube4 : List Value} {abe4 : Bool} {cole4 : Option Bool} {dde4 : Option Addr} {m0e4 m1e4 m2e4 m3e4 m5e4 : Option Value}
    (aCe4 : PySem.W.nsIn K mainGlobals "InvalidDeed" = some (some (.ref e4))) (xLe4 : K.lookup e4 = some (excClassObj nme4 qe4 e4 Ne4 bse4 (.ref cD :: PySem.HandSPX.veTail) true sne4 sube4 abe4 cole4 dde4 m0e4 m1e4 m2e4 m3e4 m5e4 "ValueError.__new__")) (rve4 : (e4 == cD) = false)
    (sae4 : PySem.W.findIn K (.ref e4) "__setattr__" = some (some (.builtin "object.__setattr__"))) (gae4 : PySem.W.findIn K (.ref e4) "__getattribute__" = some (some (.builtin "BaseException.__getattribute__"))) (gge4 : PySem.W.findIn K (.ref e4) "__getattr__" = some none) (nve4 : PySem.W.findIn K (.ref e4) "value" = some none) (ine4 : PySem.W.findIn K (.ref e4) "__init__" = some (some (.ref fI)))
    (kCe4 : PySem.W.keepIn K (.ref e4) = true) (eCe4 : PySem.W.subIn K (.ref e4) (.type "BaseException") = some true) (tCe4 : PySem.W.typeIn K (.ref e4) = some (.type "type")) (hCe4 : PySem.W.hasDictIn K e4 = true) (mre4 : PySem.W.mroIn K e4 (.ref cD) = some true) (ice4 : PySem.W.isClsIn K e4 = true) (sve4 : PySem.W.subIn K (.ref e4) (.type "ValueError") = some true)
    {kk_CLICK : Tok} (ak_CLICK : PySem.W.nsIn K mainGlobals "CLICK" = some (some (.str "click" kk_CLICK)))
    {kk_RANGE : Tok} (ak_RANGE : PySem.W.nsIn K mainGlobals "RANGE" = some (some (.str "range" kk_RANGE)))
    (z_len : PySem.W.nsIn K mainGlobals "len" = some none)
    (z_set : PySem.W.nsIn K mainGlobals "set" = some none)
    (z_list : PySem.W.nsIn K mainGlobals "list" = some none)
    (z_all : PySem.W.nsIn K mainGlobals "all" = some none)
    (z_zip : PySem.W.nsIn K mainGlobals "zip" = some none)
    (z_enumerate : PySem.W.nsIn K mainGlobals "enumerate" = some none)
    (z_sorted : PySem.W.nsIn K mainGlobals "sorted" = some none)
    (z_min : PySem.W.nsIn K mainGlobals "min" = some none)
    (z_max : PySem.W.nsIn K mainGlobals "max" = some none)
    (z_int : PySem.W.nsIn K mainGlobals "int" = some none)
    (z_range : PySem.W.nsIn K mainGlobals "range" = some none)
    (z_dict : PySem.W.nsIn K mainGlobals "dict" = some none)
    (z_repr : PySem.W.nsIn K mainGlobals "repr" = some none)
    : ∃ T : Txt K mg, T.d_law = PySem.W.fnOf "law" "law" (defArgs s_law) (defBody s_law) (defScope s_law) .none kV17 dc17 pm17 an17 cd17 ct17 ∧ T.a_law = f17 :=
  ⟨⟨f0, _, fun_mk (st := s_check_there) l0 c0 k0, PySem.W.mg_of X G a0, f1, _, fun_mk (st := s_are_marks) l1 c1 k1, PySem.W.mg_of X G a1, f2, _, fun_mk (st := s_check_marks) l2 c2 k2, PySem.W.mg_of X G a2, f3, _, fun_mk (st := s_check_clicks) l3 c3 k3, PySem.W.mg_of X G a3, f4, _, fun_mk (st := s_places_of) l4 c4 k4, PySem.W.mg_of X G a4, f5, _, fun_mk (st := s_marked_in) l5 c5 k5, PySem.W.mg_of X G a5, f6, _, fun_mk (st := s_check_state) l6 c6 k6, PySem.W.mg_of X G a6, f7, _, fun_mk (st := s_marked) l7 c7 k7, PySem.W.mg_of X G a7, f8, _, fun_mk (st := s_positions) l8 c8 k8, PySem.W.mg_of X G a8, f9, _, fun_mk (st := s_anchor_after) l9 c9 k9, PySem.W.mg_of X G a9, f10, _, fun_mk (st := s__law_source) l10 c10 k10, PySem.W.mg_of X G a10, f11, _, fun_mk (st := s__law_draw) l11 c11 k11, PySem.W.mg_of X G a11, f12, _, fun_mk (st := s__law_some) l12 c12 k12, PySem.W.mg_of X G a12, f13, _, fun_mk (st := s__law_clicks) l13 c13 k13, PySem.W.mg_of X G a13, f14, _, fun_mk (st := s__law_done) l14 c14 k14, PySem.W.mg_of X G a14, f15, _, fun_mk (st := s__law_anchor) l15 c15 k15, PySem.W.mg_of X G a15, f16, _, fun_mk (st := s__law_case_right) l16 c16 k16, PySem.W.mg_of X G a16, f17, _, fun_mk (st := s_law) l17 c17 k17, PySem.W.mg_of X G a17, fI, cI, cdI, cD, _, ⟨⟨_, _, _, _, _, _, _, _, rfl, lI⟩, qI, ⟨_, _, _, ceI⟩, ⟨_, _, _, _, _, _, fiI, viI, wiI⟩, ⟨_, clD⟩, PySem.W.mg_none_of X G suI, by rfl, opI⟩, e0, ⟨⟨⟨_, _, _, _, _, _, _, _, _, _, _, _, _, _, _, xLe0, rfl⟩, sae0, eCe0, tCe0, kCe0⟩, ine0, tyI, nve0, mre0, sup_self xLe0 rve0, sve0, ⟨gae0, gge0, eCe0, hCe0⟩⟩, PySem.W.mg_of X G aCe0, e1, ⟨⟨⟨_, _, _, _, _, _, _, _, _, _, _, _, _, _, _, xLe1, rfl⟩, sae1, eCe1, tCe1, kCe1⟩, ine1, tyI, nve1, mre1, sup_child xLe1 rve1, sve1, ⟨gae1, gge1, eCe1, hCe1⟩⟩, PySem.W.mg_of X G aCe1, e2, ⟨⟨⟨_, _, _, _, _, _, _, _, _, _, _, _, _, _, _, xLe2, rfl⟩, sae2, eCe2, tCe2, kCe2⟩, ine2, tyI, nve2, mre2, sup_child xLe2 rve2, sve2, ⟨gae2, gge2, eCe2, hCe2⟩⟩, PySem.W.mg_of X G aCe2, e3, ⟨⟨⟨_, _, _, _, _, _, _, _, _, _, _, _, _, _, _, xLe3, rfl⟩, sae3, eCe3, tCe3, kCe3⟩, ine3, tyI, nve3, mre3, sup_child xLe3 rve3, sve3, ⟨gae3, gge3, eCe3, hCe3⟩⟩, PySem.W.mg_of X G aCe3, e4, ⟨⟨⟨_, _, _, _, _, _, _, _, _, _, _, _, _, _, _, xLe4, rfl⟩, sae4, eCe4, tCe4, kCe4⟩, ine4, tyI, nve4, mre4, sup_child xLe4 rve4, sve4, ⟨gae4, gge4, eCe4, hCe4⟩⟩, PySem.W.mg_of X G aCe4, kk_CLICK, PySem.W.mg_of X G ak_CLICK, kk_RANGE, PySem.W.mg_of X G ak_RANGE, PySem.W.mg_none_of X G z_len, PySem.W.mg_none_of X G z_set, PySem.W.mg_none_of X G z_list, PySem.W.mg_none_of X G z_all, PySem.W.mg_none_of X G z_zip, PySem.W.mg_none_of X G z_enumerate, PySem.W.mg_none_of X G z_sorted, PySem.W.mg_none_of X G z_min, PySem.W.mg_none_of X G z_max, PySem.W.mg_none_of X G z_int, PySem.W.mg_none_of X G z_range, PySem.W.mg_none_of X G z_dict, PySem.W.mg_none_of X G z_repr⟩, rfl, rfl⟩
theorem walk {l : PySem.W.OpenLaw} {q : Program} {loose : List Str} {XP : (Str → Option Value) → Heap → Prop} {YP : World → Heap → Prop} {d : DefRec} {K : Params → PySem.W.Frag} (hn : l.most = some 63) (hdf : d.params.defaults = [])
    (hY : ∀ (w : World) (h : Heap), YP w h → (K w.params).In h)
    (F : ∀ (w : World) (mg : Str → Option Value) (fa : Addr) (h : Heap), (K w.params).In h → h.Ns mainGlobals mg → mg d.name = some (.ref fa) →
      ∃ fd : FuncData, (∀ (s : Shared) (u : Value), BindsTo s fd ⟨[u], []⟩ [("_law_script", u)]) ∧ ∀ base : Heap, (K w.params).In base → base.Ns mainGlobals mg → FnOkG l.prog w (K w.params) mg base CX0 7 fa fd ["_law_script"] (sp_law (K w.params))) :
    PySem.W.WalkO q loose XP YP l.row.toRowW d [] (fun f vs => PySem.call f vs) :=
  My.walk_ofG (n := 63) (k := 7) (x := "_law_script") (CX := fun _ => CX0) (sp := fun w => sp_law (K w.params)) hn (by decide) hdf ⟨rfl, by decide, by decide⟩ hY F (fun _ _ a ns hl _ hS => ⟨a, ns, rfl, hS, hl, fun _ => rfl⟩) fun _ _ _ _ _ z => z
end K26
open PySem PySem.W PyProof.Rows
set_option maxRecDepth 100000 in
set_option maxHeartbeats 0 in
theorem PySem.Challenge.cw_listwindow_k26_clicks_row_by_row_holds : PySem.Challenge.rw_listwindow_k26_clicks_row_by_row.Holds := by
  w_on; o_law; k_head; (case hw => w_witness2)
  k_fill
  refine K26.walk (l := PySem.Challenge.rw_listwindow_k26_clicks_row_by_row) rfl rfl (fun w h Y => PySem.W.kIn_of Y) ?F
  case F =>
    intro w mg fa h KX G hmg
    have T : ∃ T : K26.Txt _ mg, _ ∧ _ := K26.all_mk KX G (by k_is) (by k_is) (by k_is) (by k_is) (by k_is) (by k_is) (by k_is) (by k_is) (by k_is) (by k_is) (by k_is) (by k_is) (by k_is) (by k_is) (by k_is) (by k_is) (by k_is) (by k_is) (by k_is) (by k_is) (by k_is) (by k_is) (by k_is) (by k_is) (by k_is) (by k_is) (by k_is) (by k_is) (by k_is) (by k_is) (by k_is) (by k_is) (by k_is) (by k_is) (by k_is) (by k_is) (by k_is) (by k_is) (by k_is) (by k_is) (by k_is) (by k_is) (by k_is) (by k_is) (by k_is) (by k_is) (by k_is) (by k_is) (by k_is) (by k_is) (by k_is) (by k_is) (by k_is) (by k_is) (by k_is) (by k_is) (by k_is) (by k_is) (by k_is) (by k_is) (by k_is) (by k_is) (by k_is) (by k_is) (by k_is) (by k_is) (by k_is) (by k_is) (by k_is) (by k_is) (by k_is) (by k_is) (by k_is) (by k_is) (by k_is) (by k_is) (by k_is) (by k_is) (by rfl) (by decide +kernel) (by k_is) (by k_is) (by k_is) (by k_is) (by k_is) (by k_is) (by rfl) (by k_is) (by k_is) (by k_is) (by k_is) (by k_is) (by k_is) (by k_is) (by k_is) (by k_is) (by k_is) (by k_is) (by k_is) (by k_is) (by k_is) (by rfl) (by k_is) (by k_is) (by k_is) (by k_is) (by k_is) (by k_is) (by k_is) (by k_is) (by k_is) (by k_is) (by k_is) (by k_is) (by k_is) (by k_is) (by rfl) (by k_is) (by k_is) (by k_is) (by k_is) (by k_is) (by k_is) (by k_is) (by k_is) (by k_is) (by k_is) (by k_is) (by k_is) (by k_is) (by k_is) (by rfl) (by k_is) (by k_is) (by k_is) (by k_is) (by k_is) (by k_is) (by k_is) (by k_is) (by k_is) (by k_is) (by k_is) (by k_is) (by k_is) (by k_is) (by rfl) (by k_is) (by k_is) (by k_is) (by k_is) (by k_is) (by k_is) (by k_is) (by k_is) (by k_is) (by k_is) (by k_is) (by k_is) (by k_is) (by k_is) (by k_is) (by k_is) (by k_is) (by k_is) (by k_is) (by k_is) (by k_is) (by k_is) (by k_is) (by k_is) (by k_is) (by k_is) (by k_is)
    obtain ⟨T, e1, e2⟩ := T
    have e3 := hmg.symm.trans T.g_law
    cases e3
    exact ⟨T.d_law, fun s v => by rw [e1]; exact .of_eq rfl, fun base _ _ => K26.ok_law T⟩
#print axioms PySem.Challenge.cw_listwindow_k26_clicks_row_by_row_holds

