import PyProof.Rows.All
import Wide.All
import OpenK.AllK
import Wide.FinOn
import HandS.ForMost
import HandS.Wide
import HandS.Style
import HandS.SortInts
import HandS.IsInst
import HandS.Evl
import HandS.Walk
import HandS.ForExc
import HandS.ExcInit
import HandS.ExcField
import HandS.ExcSuper
import HandS.Nested
import KE.KExcSuper
import HandS.Zip
import HandS.Sort
import PyProof.ZipIter
import HandS.TryMany
import PySem.Challenge.RW_listwindow_k35_effects_on_all_scrolls
set_option Elab.async false
set_option linter.all false
set_option maxRecDepth 100000
set_option maxHeartbeats 4000000
/-! My own rules over the hand layer: calls by keywords alone, powers of great ints, what a heap keeps. -/
namespace My
open PySem PySem.Spec PyProof.Rows L2
/-! ### calls by keywords -/
def kg (n m : Nat) (π : List Nat) {α : Type} (us ws : List α) : List α := if us.length = n ∧ ws.length = m then π.filterMap (fun i => (us ++ ws)[i]?) else []
theorem vals_pick {xs : List V} {us : List Value} (r : Vals xs us) : ∀ (π : List Nat), Vals (π.filterMap (fun i => xs[i]?)) (π.filterMap (fun i => us[i]?))
  | [] => .nil
  | i :: π => by
    have ih := vals_pick r π
    cases e : xs[i]? with
    | none =>
      rw [List.filterMap_cons, e, List.filterMap_cons, r.none_of e]
      exact ih
    | some x =>
      obtain ⟨u, h1, h2⟩ := r.get e
      rw [List.filterMap_cons, e, List.filterMap_cons, h1]
      exact .cons h2 ih
theorem kg_rel {n m : Nat} {π : List Nat} {vs zs : List V} {us ws : List Value} (r : Vals vs us) (rz : Vals zs ws) : Vals (kg n m π vs zs) (kg n m π us ws) := by
  unfold kg
  rw [r.length, rz.length]
  split
  · exact vals_pick (r.append rz) π
  · exact .nil
theorem kbinds {K : PySem.W.Frag} {x qual : Str} {st : Stmt} {f : Addr} {fd : FuncData} {ps ks : List Str} (n m : Nat) (π : List Nat) (F : Fun K x qual st f fd) (hp : 0 < ps.length)
    (h : ∀ (kV doc pm : Value) (an : Option Addr) (cdv ct : Value) (us ws : List Value), us.length = n → ws.length = m → bindArgs (PySem.W.fnOf x qual (defArgs st) (defBody st) (defScope st) .none kV doc pm an cdv ct) ⟨us, ks.zip ws⟩ = pure (ps.zip (kg n m π us ws))) : KBinds K fd ps ks (kg n m π) (kg n m π) := by
  obtain ⟨oc, od, kV, doc, pm, an, cdv, ct, osl, rfl, lk, hcd⟩ := F.ex
  refine ⟨fun s us ws _ hl => ?_, fun r rz => kg_rel r rz⟩
  by_cases z : us.length = n ∧ ws.length = m
  · exact .of_eq (h kV doc pm an cdv ct us ws z.1 z.2)
  · unfold kg at hl
    rw [if_neg z] at hl
    rw [← hl] at hp
    exact absurd hp (Nat.lt_irrefl _)
section
variable {X : Cx} {CX : CXT} {k : Nat} {f C : Addr} {fd : FuncData} {ps ks : List Str} {sp : Sp} {E : XK} {x m : Str} {p pos apos kpos : Pos} {kws : List Keyword} {tk : TA} {g : List Value → List Value → List Value} {gV : List V → List V → List V}
/-- f(k = v, ..) -/
theorem pe_callK0 (F : FnOk X.prog X.w X.K X.mg X.base CX k f fd ps sp) (hr : Room k X.A) (hg : Gl X x) (hm : X.mg x = some (.ref f)) (hk : PySem.W.keepIn X.K (.ref f) = true) (hb : KBinds X.K fd ps ks g gV) (hx : Passes CX X E)
    (hkw : PK X kws tk) (hall : (backToKw pos (keywordEach kws X.env)).all (·.1.isSome) = true := by rfl) (hks : (backToKw pos (keywordEach kws X.env)).filterMap (·.1) = ks := by rfl)
    (hdb : (x == ("__debug__" : Str)) = false := by decide)
    (hpl : ((backTo pos (starEach [] X.env)).any (·.1) || (backToKw pos (keywordEach kws X.env)).any (·.1.isNone)) = false := by rfl) :
    PE X (.Call (.Name x p) [] kws pos) (tCallK sp gV E tNil tk) := by
  refine ⟨fun pins s σ H Q I h => ?_⟩
  refine wpAny_Call_Name_kw (ld_glob I hg hm ?_ hdb)
  refine PySem.W.callWith_KW0 (h₀ := X.base) I.ok.mod.kin hk hall ?_ hpl
  refine thn (hkw.run pos pins s σ H _ I h) fun ws s2 ⟨zs, H2, I2, rz, q2⟩ => ⟨I2.kIn, ?_⟩
  rw [hks]
  exact run_fnk (us := []) (vs := []) F hr hb hx I2 .nil rz q2
end
/-! ### powers of great ints -/
/-- a power of together at most 2 ^ 27 bits -/
def CPowW (i j : Int) : Prop := 0 ≤ j ∧ ((i.natAbs.log2 : Int) + 1) * j ≤ 2 ^ 27
theorem bits_le (x : Int) : (Builtin.Int.intBits x : Int) ≤ (x.natAbs.log2 : Int) + 1 := by
  unfold Builtin.Int.intBits
  split <;> omega
theorem op_powW {X : Cx} : OpR X (binaryOp .Pow) (rI CPowW fun i j => .int (i ^ j.toNat)) := opI fun i j _ _ _ _ _ hc q =>
  pow_int hc.1 (Int.le_trans (Int.mul_le_mul_of_nonneg_right (bits_le i) hc.1) hc.2) q
theorem powW_of {i : Int} {j : Nat} {a : Nat} (h : i.natAbs < 2 ^ a) (h0 : 0 < a) (hj : a * j ≤ 2 ^ 27) : CPowW i (j : Int) := by
  have := PySem.Flt.log2_lt_of h0 h
  refine ⟨Int.natCast_nonneg _, ?_⟩
  have e : ((i.natAbs.log2 : Int) + 1) * (j : Int) = (((i.natAbs.log2 + 1) * j : Nat) : Int) := by
    rw [Int.natCast_mul]
    rfl
  rw [e]
  have : (i.natAbs.log2 + 1) * j ≤ a * j := Nat.mul_le_mul_right _ this
  have : (i.natAbs.log2 + 1) * j ≤ 2 ^ 27 := Nat.le_trans this hj
  omega
/-! ### heaps -/
abbrev Ex := Evl.Ex
/-- all but the object at j is as it was -/
def Exj (j : Addr) (H H' : Hp) : Prop := ∀ b o, b ≠ j → H b = some o → H' b = some o
theorem Exj.refl (j : Addr) (H : Hp) : Exj j H H := fun _ _ _ h => h
theorem Exj.trans {j : Addr} {H H1 H2 : Hp} (a : Exj j H H1) (b : Exj j H1 H2) : Exj j H H2 := fun x o n h => b x o n (a x o n h)
theorem Exj.of {j : Addr} {H H' : Hp} (a : Ex H H') : Exj j H H' := fun x o _ h => a x o h
theorem Exj.upd {j : Addr} {H H' : Hp} {o : HO} (a : Exj j H H') : Exj j H (upd H' j o) := fun x u n h => by
  rw [upd_ne n]
  exact a x u n h
theorem Exj.new {j p : Addr} {H H' : Hp} {o : HO} (a : Exj j H H') (h : H' p = none) : Exj j H (L2.upd H' p o) := fun x u n e => by
  have := a x u n e
  rw [upd_ne (ne_of_none this h)]
  exact this
theorem Exj.sq {K : PySem.W.Frag} {j : Addr} {H H' : Hp} {a : Addr} {xs : List V} (e : Exj j H H') (n : a ≠ j) (h : SqL K H a xs) : SqL K H' a xs := by
  rcases h with (h | ⟨o, h⟩) | h
  · exact .inl (.inl (e _ _ n h))
  · exact .inl (.inr ⟨o, e _ _ n h⟩)
  · exact .inr h
/-- a new object, its heap by name -/
theorem newO {H : Hp} {o : HO} {P : V → Hp → Prop} (k : ∀ p H', H p = none → Ex H H' → H' p = some o → P (.ref p) H') : ∀ p, H p = none → P (.ref p) (L2.upd H p o) := fun p hp => k p _ hp (Evl.Ex.new hp) upd_same
theorem sqI {K : PySem.W.Frag} {H : Hp} {a : Addr} {xs : List V} (h : H a = some (.lst xs)) : SqL K H a xs := .inl (.inl h)
theorem sqT {K : PySem.W.Frag} {H : Hp} {a : Addr} {xs : List V} (h : H a = some (.tup xs)) : SqT K H a xs := .inl (.inl h)
/-! ### data: how a thing of Lean stands in the heap -/
/-- a way of writing things as data: it can be laid, it is no deeper than n, equal data are equal things -/
structure Good {α : Type} [DecidableEq α] (e : α → PyData) (n : Nat) : Prop where
  lay : ∀ x, (e x).canLay0 = true
  dep : ∀ x, (e x).depth ≤ n
  eqv : ∀ x y, PyData.eqv (e x) (e y) = decide (x = y)
def eL {α : Type} (e : α → PyData) (xs : List α) : PyData := .list (xs.map e)
def eT {α : Type} (e : α → PyData) (xs : List α) : PyData := .tuple (xs.map e)
def eP {α β : Type} (e : α → PyData) (f : β → PyData) (p : α × β) : PyData := .tuple [e p.1, f p.2]
theorem goodI : Good PyData.int 0 := ⟨fun _ => rfl, fun _ => Nat.le_refl _, fun x y => by
  show (x == y) = _
  rw [Bool.eq_iff_iff]
  simp⟩
theorem goodB : Good PyData.bool 0 := ⟨fun _ => rfl, fun _ => Nat.le_refl _, fun x y => by
  show (x == y) = _
  rw [Bool.eq_iff_iff]
  simp⟩
section
variable {α β : Type} [DecidableEq α] [DecidableEq β] {e : α → PyData} {f : β → PyData} {n m : Nat}
theorem Good.layAll (g : Good e n) : ∀ xs : List α, PyData.canLayAll0 (xs.map e) = true
  | [] => rfl
  | x :: xs => by
    show (PyData.canLay0 (e x) && PyData.canLayAll0 (xs.map e)) = true
    rw [g.layAll xs, g.lay x]
    rfl
theorem Good.depAll (g : Good e n) : ∀ xs : List α, PyData.depthAll (xs.map e) ≤ n
  | [] => Nat.zero_le _
  | x :: xs => by
    show max (PyData.depth (e x)) (PyData.depthAll (xs.map e)) ≤ n
    exact Nat.max_le.mpr ⟨g.dep x, g.depAll xs⟩
theorem Good.eqvAll (g : Good e n) : ∀ xs ys : List α, PyData.eqvAll (xs.map e) (ys.map e) = decide (xs = ys)
  | [], [] => rfl
  | [], _ :: _ => rfl
  | _ :: _, [] => rfl
  | x :: xs, y :: ys => by
    show (PyData.eqv (e x) (e y) && PyData.eqvAll (xs.map e) (ys.map e)) = _
    rw [g.eqvAll xs ys, g.eqv, Bool.eq_iff_iff]
    simp
theorem goodL (g : Good e n) : Good (eL e) (n + 1) := ⟨fun xs => g.layAll xs, fun xs => by
  show PyData.depthAll (xs.map e) + 1 ≤ n + 1
  have := g.depAll xs
  omega, fun xs ys => g.eqvAll xs ys⟩
theorem goodT (g : Good e n) : Good (eT e) (n + 1) := ⟨fun xs => g.layAll xs, fun xs => by
  show PyData.depthAll (xs.map e) + 1 ≤ n + 1
  have := g.depAll xs
  omega, fun xs ys => g.eqvAll xs ys⟩
theorem goodP (g : Good e n) (k : Good f n) : Good (eP e f) (n + 1) := ⟨fun p => by
    show (PyData.canLay0 (e p.1) && (PyData.canLay0 (f p.2) && true)) = true
    rw [g.lay, k.lay]
    rfl, fun p => by
    show max (PyData.depth (e p.1)) (max (PyData.depth (f p.2)) 0) + 1 ≤ n + 1
    have h1 := g.dep p.1
    have h2 := k.dep p.2
    have : max (PyData.depth (e p.1)) (max (PyData.depth (f p.2)) 0) ≤ n := Nat.max_le.mpr ⟨h1, Nat.max_le.mpr ⟨h2, Nat.zero_le _⟩⟩
    omega, fun p q => by
    show (PyData.eqv (e p.1) (e q.1) && (PyData.eqv (f p.2) (f q.2) && true)) = _
    rw [g.eqv, k.eqv, Bool.eq_iff_iff]
    obtain ⟨a, b⟩ := p
    obtain ⟨c, d⟩ := q
    simp⟩
theorem Good.shaped (g : Good e n) (h : n ≤ 64) (x : α) : SeqAt.shaped (e x) = true := by
  unfold SeqAt.shaped
  rw [g.lay x, decide_eq_true (Nat.le_trans (g.dep x) h)]
  rfl
/-- two things compared -/
theorem eqE {K : PySem.W.Frag} {H : Hp} {v u : V} {x y : α} {Q : VK} (g : Good e n) (hn : n ≤ 64) (h1 : Dp K H v (e x)) (h2 : Dp K H u (e y)) (q : Q (.bl (decide (x = y))) H) : rEqD K v u H Q :=
  ⟨_, _, h1, h2, g.shaped hn x, g.shaped hn y, by rw [g.eqv]; exact q⟩
theorem neE {K : PySem.W.Frag} {H : Hp} {v u : V} {x y : α} {Q : VK} (g : Good e n) (hn : n ≤ 64) (h1 : Dp K H v (e x)) (h2 : Dp K H u (e y)) (q : Q (.bl (!decide (x = y))) H) : rNeD K v u H Q :=
  ⟨_, _, h1, h2, g.shaped hn x, g.shaped hn y, by rw [g.eqv]; exact q⟩
end
theorem dpI {K : PySem.W.Frag} {H : Hp} : ∀ (ns : List Int), DpAll K H (ns.map V.int) (ns.map PyData.int)
  | [] => .nil
  | n :: ns => .cons (.int n) (dpI ns)
/-- a list of ints -/
theorem dpL {K : PySem.W.Frag} {H : Hp} {a : Addr} {ns : List Int} (h : SqL K H a (ns.map V.int)) : Dp K H (.ref a) (eL PyData.int ns) := .lst h (dpI ns)
theorem dpT {K : PySem.W.Frag} {H : Hp} {a : Addr} {ns : List Int} (h : SqT K H a (ns.map V.int)) : Dp K H (.ref a) (eT PyData.int ns) := .tup h (dpI ns)
/-- lists of ints compared -/
theorem eqI_ {K : PySem.W.Frag} {H : Hp} {a b : Addr} {xs ys : List Int} {Q : VK} (h1 : SqL K H a (xs.map V.int)) (h2 : SqL K H b (ys.map V.int)) (q : Q (.bl (decide (xs = ys))) H) : rEqD K (.ref a) (.ref b) H Q := eqE (goodL goodI) (by decide) (dpL h1) (dpL h2) q
theorem neI_ {K : PySem.W.Frag} {H : Hp} {a b : Addr} {xs ys : List Int} {Q : VK} (h1 : SqL K H a (xs.map V.int)) (h2 : SqL K H b (ys.map V.int)) (q : Q (.bl (!decide (xs = ys))) H) : rNeD K (.ref a) (.ref b) H Q := neE (goodL goodI) (by decide) (dpL h1) (dpL h2) q
/-! ### new objects, the heap behind them by a letter -/
section
variable {X : Cx} {es : List Expr} {t : TA} {pos : Pos}
theorem pe_weak {e : Expr} {t t' : TE} (h : PE X e t) (w : ∀ σ H Q, t' σ H Q → t σ H Q) : PE X e t' := ⟨fun pins s σ H Q I q => h.run pins s σ H Q I (w σ H Q q)⟩
def tCutA (t : TA) : TA := fun σ H Q => ∃ M : List V → Hp → Prop, t σ H M ∧ ∀ vs H', M vs H' → Q vs H'
theorem pa_cut (h : PA X es t) : PA X es (tCutA t) := ⟨fun pos pins s σ H Q I ⟨M, hm, hq⟩ => thn (h.run pos pins s σ H M I hm) fun us s1 ⟨xs, H1, I1, r, q⟩ => ⟨xs, H1, I1, r, hq xs H1 q⟩⟩
/-- a new thing o, at any free place of any heap that keeps H -/
def New (o : HO) (H : Hp) (Q : VK) : Prop := ∀ p H', H p = none → Ex H H' → H' p = some o → Q (.ref p) H'
theorem New.go {o : HO} {H : Hp} {Q : VK} (k : New o H Q) (p : Addr) (hp : H p = none) : Q (.ref p) (upd H p o) := k p _ hp (Evl.Ex.new hp) upd_same
def tLstG (t : TA) : TE := fun σ H Q => t σ H fun xs H1 => xs.length ≤ sizeLine ∧ New (.lst xs) H1 Q
def tTupG (t : TA) : TE := fun σ H Q => t σ H fun xs H1 => xs.length ≤ sizeLine ∧ New (.tup xs) H1 Q
theorem pe_lstG (h : PA X es t) : PE X (.List es pos) (tLstG t) := pe_weak (pe_lst (pa_cut h)) fun σ H Q q => ⟨_, q, fun _ _ z => ⟨z.1, fun p hp => z.2.go p hp⟩⟩
theorem pe_tupG {x1} (h : PA X es t) : PE X (.Tuple es x1 pos) (tTupG t) := pe_weak (pe_tup (pa_cut h)) fun σ H Q q => ⟨_, q, fun _ _ z => ⟨z.1, fun p hp => z.2.go p hp⟩⟩
def rCatG : R2 := fun x y H Q => ∃ l b xs zs, x = .ref l ∧ y = .ref b ∧ H l = some (.lst xs) ∧ H b = some (.lst zs) ∧ xs.length + zs.length ≤ sizeLine ∧ New (.lst (xs ++ zs)) H Q
theorem op_catG : OpR X (binaryOp .Add) rCatG := fun pins s σ H x y v u Q I rx ry ⟨l, b, xs, zs, h1, h2, h3, h4, h5, k⟩ => op_cat pins s σ H x y v u Q I rx ry ⟨l, b, xs, zs, h1, h2, h3, h4, h5, fun p hp => k.go p hp⟩
def rRepG : R2 := fun x y H Q => ∃ l k xs, x = .ref l ∧ y = .int k ∧ H l = some (.lst xs) ∧ -(2 ^ 63) ≤ k ∧ k < 2 ^ 63 ∧ xs.length * k.toNat ≤ sizeLine ∧ New (.lst (List.replicate k.toNat xs).flatten) H Q
theorem op_repG : OpR X (binaryOp .Mult) rRepG := fun pins s σ H x y v u Q I rx ry ⟨l, k, xs, h1, h2, h3, h4, h5, h6, z⟩ => op_rep pins s σ H x y v u Q I rx ry ⟨l, k, xs, h1, h2, h3, h4, h5, h6, fun p hp => z.go p hp⟩
def rSlG (K : PySem.W.Frag) : V → Option Int → Option Int → Hp → VK → Prop := fun x lo hi H Q => ∃ a xs, x = .ref a ∧ SqL K H a xs ∧ New (.lst (cutV xs lo hi)) H Q
theorem sl_listG : SlR X (rSlG X.K) := fun pins s σ H x v vl vu lo hi sl Q I rx hs pl pu ⟨a, xs, h1, h2, k⟩ => sl_list pins s σ H x v vl vu lo hi sl Q I rx hs pl pu ⟨a, xs, h1, h2, fun p hp => k.go p hp⟩
def rListG (K : PySem.W.Frag) : List V → Hp → VK → Prop := fun xs H Q => ∃ p ys, xs = [.ref p] ∧ (SqL K H p ys ∨ SqT K H p ys) ∧ New (.lst ys) H Q
theorem call_listG : CallR X (.type "list") (rListG X.K) := fun pins s σ H xs us Q I r ⟨p, ys, h1, h2, k⟩ => call_list_of pins s σ H xs us Q I r ⟨p, ys, h1, h2, fun p hp => k.go p hp⟩
def rTupleG (K : PySem.W.Frag) : List V → Hp → VK → Prop := fun xs H Q => ∃ p ys, xs = [.ref p] ∧ SqL K H p ys ∧ New (.tup ys) H Q
theorem call_tupleG : CallR X (.type "tuple") (rTupleG X.K) := fun pins s σ H xs us Q I r ⟨p, ys, h1, h2, k⟩ => call_tuple_of pins s σ H xs us Q I r ⟨p, ys, h1, .inl ⟨h2, fun p hp => k.go p hp⟩⟩
def rSortedG (K : PySem.W.Frag) : List V → Hp → VK → Prop := fun vs H Q => ∃ (a : Addr) (ns : List Int), vs = [V.ref a] ∧ SqL K H a (ns.map V.int) ∧ ∀ ns' : List Int, ns'.Perm ns → ns'.Pairwise (· ≤ ·) → New (.lst (ns'.map V.int)) H Q
theorem cr_sortedG : CallR X (.builtin "sorted") (rSortedG X.K) := fun pins s σ H xs us Q I r ⟨a, ns, h1, h2, k⟩ => cr_sortedI pins s σ H xs us Q I r ⟨a, ns, h1, h2, fun ns' p h3 h4 hp => (k ns' h3 h4).go p hp⟩
end
/-! ### slices -/
theorem cut_to (xs : List V) (n : Nat) : cutV xs none (some (n : Int)) = xs.take n := by
  unfold cutV
  rw [HT.sIx_none, HT.sIx_nat, List.drop_zero, Nat.sub_zero]
  by_cases h : n ≤ xs.length
  · rw [Nat.min_eq_left h]
  · rw [Nat.min_eq_right (by omega), List.take_of_length_le (Nat.le_refl _), List.take_of_length_le (by omega)]
theorem cut_from (xs : List V) (n : Nat) : cutV xs (some (n : Int)) none = xs.drop n := by
  unfold cutV
  rw [HT.sIx_none, HT.sIx_nat]
  by_cases h : n ≤ xs.length
  · rw [Nat.min_eq_left h, List.take_of_length_le (by rw [List.length_drop]; exact Nat.le_refl _)]
  · rw [Nat.min_eq_right (by omega), List.drop_eq_nil_of_le (Nat.le_refl _), List.drop_eq_nil_of_le (by omega)]
    exact List.take_nil
/-! ### ways that come together -/
section
variable {X : Cx}
def tCutE (te : TE) : TE := fun σ H Q => ∃ M : V → Hp → Prop, te σ H M ∧ ∀ v H', M v H' → Q v H'
def tCutT (tt : TT) : TT := fun σ H Q => ∃ M : Bool → Hp → Prop, tt σ H M ∧ ∀ b H', M b H' → Q b H'
def tCutS (t : TS) : TS := fun D σ H => ∃ M : L2.St → Hp → Prop, t { D with nx := M } σ H ∧ ∀ σ' H', M σ' H' → D.nx σ' H'
theorem pe_cut {e : Expr} {te : TE} (h : PE X e te) : PE X e (tCutE te) := ⟨fun pins s σ H Q I ⟨M, hm, hq⟩ => thn (h.run pins s σ H M I hm) fun v s1 ⟨x, H1, I1, r, q⟩ => ⟨x, H1, I1, r, hq x H1 q⟩⟩
theorem pt_cut {e : Expr} {tt : TT} (h : PT X e tt) : PT X e (tCutT tt) := ⟨fun pins s σ H Q I ⟨M, hm, hq⟩ => thn (h.run pins s σ H M I hm) fun b s1 ⟨H1, I1, q⟩ => ⟨H1, I1, hq b H1 q⟩⟩
theorem ps_cut {st : Stmt} {t : TS} (h : PS X st t) : PS X st (tCutS t) := by
  refine ⟨fun pins s σ H D I ⟨M, hm, hq⟩ => thn (h.run pins s σ H { D with nx := M } I hm) fun f s1 q => ?_⟩
  cases f with
  | next =>
    obtain ⟨σ', H', I', q⟩ := q
    exact ⟨σ', H', I', hq σ' H' q⟩
  | ret v => exact q
  | brk => exact q
  | cont => exact q
end
theorem ifF {c : Bool} {A B : Prop} (h : c = false) (k : B) : if c = true then A else B := by
  rw [h]
  exact iteF k
theorem ifT {c : Bool} {A B : Prop} (h : c = true) (k : A) : if c = true then A else B := by
  rw [h]
  exact iteT k
theorem ifB {c : Bool} {A B : Prop} (h1 : c = true → A) (h2 : c = false → B) : if c = true then A else B := by
  cases c with
  | true => exact iteT (h1 rfl)
  | false => exact iteF (h2 rfl)
/-! ### comprehensions without tests, the element without a trace -/
theorem lc_mapL {K : PySem.W.Frag} {a : Addr} {xs ys : List V} {j : Nat} {te : TE} {vs : List Nat} {σ : L2.St} {H1 : Hp} {D : Addr} {Qd : Hp → Prop} (hx : SqL K H1 a xs) (hD : H1 D = none) (hl : ys.length = xs.length) (hz : xs.length ≤ sizeLine)
    (hw : ∀ x, wipe ((wipe σ vs).set j (some x)) vs = wipe σ vs)
    (he : ∀ (i : Nat) x y H', Ex H1 H' → xs[i]? = some x → ys[i]? = some y → ∀ R : VK, (∀ H2, Ex H' H2 → R y H2) → te ((wipe σ vs).set j (some x)) H' R)
    (k : ∀ H', Ex H1 H' → H' D = some (.lst ys) → Qd H') :
    ∃ W : Nat → Nat → Hp → Prop, (∃ m, W 0 m (upd H1 D (.lst []))) ∧ ∀ i m H, W i m H →
      ((Itl K a).stop i H ∧ Qd H) ∨ ((Itl K a).go i H ∧ ∃ Nx : Hp → Prop, (∀ H', Nx H' → ∃ m', m' < m ∧ W (i + 1) m' H') ∧ ∀ x H', (Itl K a).yld i H x H' → gName j x (wipe σ vs) H' fun σ2 H2 => wipe σ2 vs = wipe σ vs ∧ tYes σ2 H2 fun b H3 =>
        if b = true then te σ2 H3 fun y H4 => ∃ acc, H4 D = some (.lst acc) ∧ acc.length < sizeLine ∧ Nx (upd H4 D (.lst (acc ++ [y]))) else Nx H3) := by
  refine lc_list (xs := xs) (fun i H' => Ex H1 H' ∧ H' D = some (.lst (ys.take i))) ⟨Evl.Ex.new hD, upd_same⟩ (fun i H' _ p => Evl.ex_l p.1 hx) (fun i x H' hi p => ?_) (fun H' p => k H' p.1 ?_)
  · have hi' : i < xs.length := (List.getElem?_eq_some_iff.mp hi).1
    have hy : ys[i]? = some (ys[i]'(by omega)) := List.getElem?_eq_getElem (by omega)
    refine ⟨hw x, ?_⟩
    show te ((wipe σ vs).set j (some x)) H' _
    refine he i x _ H' p.1 hi hy _ fun H2 e2 => ⟨ys.take i, e2 _ _ p.2, ?_, ?_⟩
    · rw [List.length_take]
      omega
    · refine ⟨Evl.Ex.mut (p.1.trans e2) hD, ?_⟩
      rw [upd_same, List.take_add_one, hy]
      rfl
  · have := p.2
    rw [List.take_of_length_le (by omega)] at this
    exact this
end My
set_option Elab.async false
set_option linter.all false
set_option maxRecDepth 100000
set_option maxHeartbeats 4000000
/-! Own errors whose __init__ says super().__init__("..") and keeps one field. -/
namespace My
open PySem PySem.Spec PyProof.Rows L2 NdefX
/-! ### the built-in __init__ bound to a new error, called -/
section
variable {prog : Program} {w : World} {A : Around} {E : Value → Shared → Prop} {h : Heap} {g : Array GenState} {d : Drawn} {t : Nat} {os : OsState}
variable {nm q : Str} {C N : Addr} {bs bm : List Value} {hdct : Bool} {sn : List Str} {sub : List Value} {ab : Bool} {col : Option Bool} {dd : Option Addr} {k0 k1 k2 k3 k5 : Option Value}
theorem call_mwV {u e t0 : Addr} {rest : List Value} {Q : Value → Shared → Prop}
    (hC : h.get? C = some (excClassObj nm q C N bs bm hdct sn sub ab col dd k0 k1 k2 k3 k5 "ValueError.__new__")) (he : h.get? e = some (HandSPX.excO C t0)) (hu : h.get? u = some (PySem.W.kxs_mw "ValueError.__init__" e)) (hrest : rest.length ≤ sizeLine)
    (hq : ∀ h' t1, (∀ b o, b ≠ e → h.get? b = some o → h'.get? b = some o) → h'.get? e = some (HandSPX.excO C t1) → Q .none ⟨h', g, d, t, os⟩) :
    wpAny (model prog w) A (call (.ref u) rest) Q E ⟨h, g, d, t, os⟩ := by
  refine wpAny_call (codeAny_of_tree ?_)
  show wpAny _ A.in1 (callAny (.ref u) ⟨rest, []⟩) _ _ _
  simp only [callAny]
  refine wpAny_bind (wpAny_load hu ?_)
  simp only [PySem.W.kxs_mw, show (Value.type "method-wrapper" == Value.type "method" || Value.type "method-wrapper" == Value.type "builtin_function_or_method" || Value.type "method-wrapper" == Value.type "method-wrapper") = true by decide, if_true]
  refine W.KFB.if_so (by decide) ?_
  refine wpAny_bind (ESX.check_bound F.excBase_ValueError hC he rfl ?_)
  refine wpAny_bind (wpAny_pure (wpAny_pure ?_))
  refine ⟨Code.quiet_builtin _ (by decide +kernel), codeAny_builtin F.excBase_ValueError.initEntry ?_⟩
  rw [Around.under_plainId F.excBase_ValueError.init.plain _]
  wp_walk
  refine hq _ h.objs.size (fun b o hb ho => ?_) ?_
  · rw [Heap.get?_update_other _ _ (Ne.symm hb)]
    exact Heap.get?_push_of_some _ ho
  · rw [Heap.get?_update_self _ (Heap.get?_push_of_some _ he) rfl]
    rfl
end
/-- what the written part says of the __init__ and of the class D that holds it -/
structure InitT (P : Program) (K : PySem.W.Frag) (mg : Str → Option Value) (st : Stmt) (qu : Str) (fI cc cda D : Addr) (fd : FuncData) : Prop where
  ex : ∃ (oc : Value) (od : Option Addr) (kV doc pm : Value) (an : Option Addr) (ct : Value) (osl : Array (Option Value)),
    fd = PySem.W.fnX "__init__" qu (defArgs st) (defBody st) (defScope st) [("__class__", cc)] .none kV doc pm an (.ref cda) ct ∧ K.lookup fI = some ⟨oc, od, .func fd, osl⟩
  code : PySem.W.codeIn K (.ref cda) qu = true
  cell : ∃ cl cld csl, K.lookup cc = some ⟨cl, cld, .cell (some (.ref D)), csl⟩
  file : ∃ (ccl : Value) (cdd : Option Addr) (ccs : Array (Option Value)) (vs : Array Value) (fl : Str) (tf : Tok), K.lookup cda = some ⟨ccl, cdd, .fields vs, ccs⟩ ∧ vs[2]? = some (.str fl tf) ∧ ((P.main.file : Str) == fl) = true
  cls : ∃ cdD, PySem.W.clsIn K D = some cdD
  sup : mg "super" = none
  top : (P.main.scope.names.lookup ("super" : Str)).isSome = false
  opq : PySem.W.nsIn K cStatics "thirdparty.any" = some none
/-- what it says of a class C of errors that has this __init__ -/
structure ErrC (K : PySem.W.Frag) (fI D C : Addr) : Prop where
  oex : OexC K C
  init : PySem.W.findIn K (.ref C) "__init__" = some (some (.ref fI))
  tI : PySem.W.typeIn K (.ref fI) = some (.type "function")
  nov : PySem.W.findIn K (.ref C) "value" = some none
  mro : PySem.W.mroIn K C (.ref D) = some true
  sin : PySem.W.ks_superIn K C D "__init__" = some (some (.builtin "ValueError.__init__"))
  sub : PySem.W.subIn K (.ref C) (.type "ValueError") = some true
  xf : XfC K C
/-- the first statement, super().__init__("..") -/
abbrev sSuper (p0 p1 p2 p3 p4 p5 : Pos) (x : Str) (j : Nat) : Stmt := .Expr (.Call (.Attribute (.Call (.Name "super" p0) [] [] p1) "__init__" p2) [.Constant (.str x) j p3] [] p4) p5
abbrev sKeep (p0 p1 p2 p3 : Pos) : Stmt := .Assign [.Attribute (.Name "self" p0) "value" p1] (.Name "value" p2) p3
/-- the promise: the new error at a has, behind it, its dict with the value -/
def spErr (K : PySem.W.Frag) (fI D : Addr) : Sp := fun vs H Q _ => ∃ (a C : Addr) (v : V), vs = [.ref a, v] ∧ ErrC K fI D C ∧ H a = some (exo a C none) ∧
  ∀ dx, H dx = none → dx ≠ a → Q .non (upd (upd H dx (exd dx [("value", v)])) a (exo a C (some dx)))
section
variable {P : Program} {w : World} {K : PySem.W.Frag} {mg : Str → Option Value} {base : Heap} {st : Stmt} {qu : Str} {fI cc cda D : Addr} {fd : FuncData}
theorem super_step {A : Around} {outer : List Env} {s0 : Shared} {H0 : Hp} {E0' : XK} {F : NF} {body : List Stmt} {p0 p1 p2 p3 p4 p5 : Pos} {x : Str} {j : Nat} {a C : Addr} {v : V} {H : Hp} {s : Shared} {ws : List (Option V)} {Q : Flow → Shared → Prop} {N : List Str}
    (T : InitT P K mg st qu fI cc cda D fd) (hF : F = ⟨"__init__", qu, defArgs st, defBody st, defScope st, [("__class__", cc)], cda⟩) (TC : ErrC K fI D C)
    (hks : (defScope st).names.lookup ("super" : Str) = some .globalImplicit) (hkc : (defScope st).names.lookup ("__class__" : Str) = some .free) (hka : (defScope st).names.lookup ("self" : Str) = some .local) (hk : (defScope st).kind = .function)
    (hp : ((defArgs st).posonlyargs ++ (defArgs st).args).head?.map (·.arg) = some ("self" : Str)) (hN : N[0]? = some ("self" : Str))
    {pl : Sem Bool} (hev : ∀ env : Env, eval (.Call (.Attribute (.Call (.Name "super" p0) [] [] p1) "__init__" p2) [.Constant (.str x) j p3] [] p4) env = (do
      let ov ← attributeBase (.Call (.Name "super" p0) [] [] p1) "__init__" env (eval (.Call (.Name "super" p0) [] [] p1) env)
      standAt p2.atName
      let (f, first) ← holding [ov] (getMethod ov "__init__" pl)
      callWith p4 f first (backTo p4 (starEach [.Constant (.str x) j p3] env)) []))
    (I : Inv (ncx CX0 P w K mg base N F fI A outer s0 H0 E0') [] (some (.ref a) :: some v :: ws) H s) (ha : H a = some (exo a C none))
    (h : ∀ s', Inv (ncx CX0 P w K mg base N F fI A outer s0 H0 E0') [] (some (.ref a) :: some v :: ws) H s' → Q .next s') :
    _root_.PySem.wpAt (model P w) (ncx CX0 P w K mg base N F fI A outer s0 H0 E0').A (.func body (ncx CX0 P w K mg base N F fI A outer s0 H0 E0').env) (exec (sSuper p0 p1 p2 p3 p4 p5 x j) (ncx CX0 P w K mg base N F fI A outer s0 H0 E0').env) Q (ncx CX0 P w K mg base N F fI A outer s0 H0 E0').xe s := by
  subst hF
  obtain ⟨oc, od, kV, doc, pm, an, ct, osl, efd, lk⟩ := T.ex
  obtain ⟨cl, cld, csl, hcell⟩ := T.cell
  obtain ⟨ccl, cdd, ccs, vs, fl, tf, hcode, hvs, hfile⟩ := T.file
  obtain ⟨cdD, hD⟩ := T.cls
  obtain ⟨nm, q, N', bs, bm, sn, sub, ab, col, dd, k0, k1, k2, k3, k5, hC, hbm⟩ := TC.oex.cls
  have hcl : PySem.W.clsIn K C = some { name := nm, bases := bs, mro := .ref C :: bm, ns := N', qualname := q, hasDict := true, slotNames := sn, subclasses := sub, abstract := ab, collection := col, hasDel := false } := by unfold PySem.W.clsIn; rw [hC] <;> rfl
  have KX : K.In s.heap := I.kIn
  obtain ⟨ar, har, harg⟩ : ∃ ar, ((defArgs st).posonlyargs ++ (defArgs st).args).head? = some ar ∧ ar.arg = ("self" : Str) := by
    cases e : ((defArgs st).posonlyargs ++ (defArgs st).args).head? with
    | none => rw [e] at hp; cases hp
    | some ar => rw [e] at hp; exact ⟨ar, rfl, Option.some.inj hp⟩
  obtain ⟨oD, hD1, hD2⟩ : ∃ oD, s.heap.get? D = some oD ∧ oD.data = .cls cdD := by
    unfold PySem.W.clsIn at hD
    split at hD
    · rename_i c d cd' sl ho
      cases hD
      exact ⟨_, KX _ _ ho, rfl⟩
    · cases hD
  obtain ⟨t1, hoe⟩ := exo_at I.hok ha
  -- the name self
  obtain ⟨m, hns, hl⟩ := id I.loc
  obtain ⟨u0, ru, lu⟩ := hl 0 "self" (.ref a) hN rfl (.inl hka)
  obtain rfl : u0 = Value.ref a := ru
  have hself : m "self" = some (.ref a) := by
    rcases lu with ⟨_, q⟩ | ⟨q, _⟩
    · exact q
    · have e : (defScope st).names.lookup ("self" : Str) = some .cell ∨ (defScope st).names.lookup ("self" : Str) = some .free := q
      rw [hka] at e
      rcases e with z | z <;> cases z
  obtain ⟨mb, hb1, hb2⟩ := I.mod.blt
  refine ks_wpAt_Expr_any (ks_wpAt_MethodCall ?_ (hev _)) (I.quiet) rfl
  refine ks_wpAt_super_base hks hkc (by decide) rfl (KX _ _ lk) (by rw [efd]) (ar := ar) har rfl (KX _ _ hcode) rfl hvs hfile T.top ?_
  refine PySem.W.ks_loadName_global hk hks (Calls.loadGlobal_builtin (I.mod.glob.keeps I.bk) T.sup (hb1.keeps I.bk) ((hb2 _ (by decide)).trans (by decide +kernel)) ⟨rfl, ?_⟩)
  refine wpAny_loadName_free hk hkc rfl ⟨_, KX _ _ hcell, rfl⟩ ?_
  rw [harg]
  refine wpAny_loadName_local hk hka hns hself ?_
  refine ks_wpAny_isType_cls hD1 hD2 ⟨rfl, ?_⟩
  obtain ⟨hp0, g, d, t, os⟩ := s
  refine ks_wpAny_call_super hD1 hD2 hoe rfl (fun c e => by cases e) (PySem.W.looks_mroIn KX TC.mro) (fun h1 e1 k1' => ?_)
  have I1 : Inv (ncx CX0 P w K mg base N ⟨"__init__", qu, defArgs st, defBody st, defScope st, [("__class__", cc)], cda⟩ fI A outer s0 H0 E0') [] (some (.ref a) :: some v :: ws) H ⟨h1, g, d, t, os⟩ := I.kept (h' := h1) (t' := t) k1'
  have KX1 : K.In h1 := I1.kIn
  have hoe1 := k1' _ _ hoe
  have hnaC : a ≠ C := by
    rintro rfl
    have z := KX _ _ hC
    rw [hoe] at z
    cases z
  have hI1 : PySem.W.Looks (model P w) h1 (isInstance (.ref a) (.type "ValueError")) true := (show PySem.W.InstAt h1 a _ C none from ⟨hoe1, rfl, rfl, trivial⟩).type.andThen (PySem.W.looks_subIn KX1 TC.sub)
  have hsin := TC.sin
  unfold PySem.W.ks_superIn at hsin
  rw [hcl, Option.bind_some] at hsin
  refine PySem.W.kxs_getMethod PySem.W.kxs_ValueError e1 (PySem.W.looks_opaque KX1 T.opq) (l₀ := .ref C :: bm) ?_ rfl KX1 hsin hI1 hnaC (by decide) ?_
  · exact fun A Q E s k q => wpAny_bind ((PySem.W.looks_clsIn KX1 hcl) A _ E s k (wpAny_pure q))
  have I2 : Inv (ncx CX0 P w K mg base N ⟨"__init__", qu, defArgs st, defBody st, defScope st, [("__class__", cc)], cda⟩ fI A outer s0 H0 E0') [] (some (.ref a) :: some v :: ws) H ⟨h1.push (PySem.W.kxs_mw "ValueError.__init__" a), g, d, t + 1, os⟩ := I1.kept (t' := t + 1) fun b o e => Heap.get?_push_of_some _ e
  have hu2 : (h1.push (PySem.W.kxs_mw "ValueError.__init__" a)).get? h1.objs.size = some (PySem.W.kxs_mw "ValueError.__init__" a) := Heap.get?_push_at rfl rfl
  have hoe2 : (h1.push (PySem.W.kxs_mw "ValueError.__init__" a)).get? a = _ := Heap.get?_push_of_some _ hoe1
  show wpAny _ _ (callWith p4 (.ref h1.objs.size) [] (backTo p4 (starEach [.Constant (.str x) j p3] _)) []) _ _ _
  refine PySem.W.kxs_callWith (i := "ValueError.__init__") (x := a) rfl (PySem.Calls.evalArgs_plain ?_)
  refine args_cons (Calls.Constant_str (args_nil ⟨hu2, ?_⟩)) rfl
  have I3 := I2.tok (t + 1 + 1)
  refine call_mwV (KX1.keeps (fun b o e => Heap.get?_push_of_some _ e) _ _ hC) hoe2 hu2 (by show 1 ≤ sizeLine; decide) (fun h' t' k he => ?_)
  have J := I3.write (t' := t + 1 + 1) (x := a) (e := a) (o := exo a C none) (by rw [ha]; exact True.intro) (.inl rfl) k ⟨_, he⟩ (exo_ok he)
  have eu : upd H a (exo a C none) = H := by
    funext b
    by_cases hb : b = a
    · rw [hb, upd_same, ha]
    · rw [upd_ne hb]
  rw [eu] at J
  exact h _ J
theorem ok_err {p0 p1 p2 p3 p4 p5 q0 q1 q2 q3 : Pos} {x : Str} {j : Nat} {pl : Sem Bool} (T : InitT P K mg st qu fI cc cda D fd) (S : NScope ["self", "value", "__class__"] ["self", "value"] ["__class__"] (defScope st))
    (hbd : defBody st = [sSuper p0 p1 p2 p3 p4 p5 x j, sKeep q0 q1 q2 q3]) (hks : (defScope st).names.lookup ("super" : Str) = some .globalImplicit)
    (hp : ((defArgs st).posonlyargs ++ (defArgs st).args).head?.map (·.arg) = some ("self" : Str))
    (hev : ∀ env : Env, eval (.Call (.Attribute (.Call (.Name "super" p0) [] [] p1) "__init__" p2) [.Constant (.str x) j p3] [] p4) env = (do
      let ov ← attributeBase (.Call (.Name "super" p0) [] [] p1) "__init__" env (eval (.Call (.Name "super" p0) [] [] p1) env)
      standAt p2.atName
      let (f, first) ← holding [ov] (getMethod ov "__init__" pl)
      callWith p4 f first (backTo p4 (starEach [.Constant (.str x) j p3] env)) [])) : FnOk P w K mg base CX0 1 fI fd ["self", "value"] (spErr K fI D) := by
  refine ⟨fun vs H Q E h => by obtain ⟨a, C, v, rfl, _⟩ := h; rfl, fun A outer s H args us vs Q E hr e0 hb r hsp => ?_⟩
  have KX : K.In s.heap := e0.mod.kin.keeps fun b o e => (e0.bs b o e).1
  have lim : s.heap.NoLimit := e0.mod.nolimit.keeps fun b o e => (e0.bs b o e).1
  obtain ⟨oc, od, kV, doc, pm, an, ct, osl, efd, lk⟩ := id T.ex
  obtain ⟨cl, cld, csl, hcell⟩ := T.cell
  obtain ⟨a, C, v, ev, TC, ha, k⟩ := hsp
  subst ev
  have hl : [V.ref a, v].length = (["self", "value"] : List Str).length := rfl
  have hC : CellsAt [(("__class__" : Str), cc)] ["__class__"] [some (.ref D)] s.heap H := by
    have hb := e0.mod.kin _ _ hcell
    have hs := e0.bs _ _ hb
    have key : ∀ {y : Str} {c : Addr}, ([(("__class__" : Str), cc)] : List (Str × Addr)).lookup y = some c → c = cc ∧ y = "__class__" := fun {y c} e => by
      have z := PySem.mem_of_lookup e
      have z' : (y, c) = (("__class__" : Str), cc) := by simpa using z
      exact ⟨congrArg Prod.snd z', congrArg Prod.fst z'⟩
    refine ⟨rfl, fun y c e => ?_, fun y z c e1 e2 => (key e1).2.trans (key e2).2.symm, fun i y e => ?_⟩
    · obtain ⟨rfl, rfl⟩ := key e
      exact ⟨hs.2, _, _, hs.1, rfl⟩
    · cases i with
      | zero =>
        have e' : ("__class__" : Str) = y := Option.some.inj e
        subst e'
        refine ⟨cc, by simp [List.lookup], fun u hu => ?_⟩
        have hu' : some (some (V.ref D)) = some (some u) := hu
        cases hu'
        exact ⟨.ref D, rfl, _, hs.1, rfl⟩
      | succ i => simp at e
  have hfd : (K.lookup fI) = some ⟨oc, od, .func (PySem.W.fnX "__init__" qu (defArgs st) (defBody st) (defScope st) [("__class__", cc)] .none kV doc pm an (.ref cda) ct), osl⟩ := by rw [← efd]; exact lk
  refine codeAny_call_function hr.depth (KX _ _ hfd) rfl S.co S.gen rfl (PySem.W.codeRec_of KX T.code) ?_
  have hb' := hb
  rw [efd] at hb'
  refine hb' _ _ _ _ ?_
  refine wpAny_newFunctionEnv S.nocell (fun ⟨n, _⟩ hy => S.par n (List.of_mem_zip hy).1) (fun h₁ hns hsb => ⟨lim.fresh _ hsb, ?_⟩) S.kind
  have kp : ∀ b o, s.heap.get? b = some o → h₁.get? b = some o := fun b o e => hsb.extBut b o (Nat.ne_of_lt (Heap.lt_size e)) (Heap.get?_push_of_some _ e)
  have I : Inv (ncx CX0 P w K mg base ["self", "value", "__class__"] ⟨"__init__", qu, defArgs st, defBody st, defScope st, [("__class__", cc)], cda⟩ fI A outer s H E) [] (startF ["self", "value", "__class__"] [V.ref a, v] [some (.ref D)]) H { s with heap := h₁, toks := s.toks + ((["self", "value"] : List Str).zip us).length } :=
    inv_startN (F := ⟨"__init__", qu, defArgs st, defBody st, defScope st, [("__class__", cc)], cda⟩) S hr.hd e0 hl r hC hns kp
  refine ks_codeAny_funcAt (env := (ncx CX0 P w K mg base ["self", "value", "__class__"] ⟨"__init__", qu, defArgs st, defBody st, defScope st, [("__class__", cc)], cda⟩ fI A outer s H E).env) (body := defBody st) ?_
  rw [show execs (defBody st) = execs [sSuper p0 p1 p2 p3 p4 p5 x j, sKeep q0 q1 q2 q3] from congrArg execs hbd]
  refine ks_wpAt_execs_cons (super_step T rfl TC hks (S.frk _ (by simp)) (S.par _ (by simp)) S.kind hp rfl hev I ha fun s' I' => ?_)
  have hpst : PSs (ncx CX0 P w K mg base ["self", "value", "__class__"] ⟨"__init__", qu, defArgs st, defBody st, defScope st, [("__class__", cc)], cda⟩ fI A outer s H E) [sKeep q0 q1 q2 q3] _ :=
    pss_one (ps_ost (pe_var (i := 0) rfl (.inl (S.par _ (by simp)))) (pe_var (i := 1) rfl (.inl (S.par _ (by simp)))))
  have run := hpst.run [] s' _ H { nx := fun _ H' => Q .non H', rt := Q } I' ⟨_, rfl, _, rfl, a, C, rfl, TC.oex, TC.nov, .inl ⟨ha, k⟩⟩
  refine wpAt_of_wpAny (wpAny_mono run (fun fl s2 hs => ?_) fun e s2 hs => hs)
  have fin : ∀ {σ' : L2.St} {H' : Hp} {v : V} {u : Value}, Inv (ncx CX0 P w K mg base ["self", "value", "__class__"] ⟨"__init__", qu, defArgs st, defBody st, defScope st, [("__class__", cc)], cda⟩ fI A outer s H E) [] σ' H' s2 → L2.RelV v u → Q v H' → CE outer P w H s Q u s2 :=
    fun {σ' H' v u} J rv q => ⟨v, H', J.os, J.bare, J.base, J.hok, rv, q⟩
  cases fl with
  | ret u =>
    obtain ⟨v, σ', H', J, rv, q⟩ := hs
    exact fin J rv q
  | next =>
    obtain ⟨σ', H', J, q⟩ := hs
    exact fin (v := V.non) (u := Value.none) J rfl q
  | brk =>
    obtain ⟨_, _, _, q⟩ := hs
    exact False.elim q
  | cont =>
    obtain ⟨_, _, _, q⟩ := hs
    exact False.elim q
end
/-! ### raise X(e) -/
/-- an error of the class at C with the value v is what is wanted -/
def Raised (C : Addr) (v : V) (H : Hp) (E : XK) : Prop := ∀ d H', H d = none → Ex H H' → H' d = some (.xd [("value", v)]) → E (.ref C) (some d) H'
def tErr (C : Addr) (ta : TA) : L2.St → Hp → XK → Prop := fun σ H Q => ta σ H fun vs H1 => ∃ v, vs = [v] ∧ Raised C v H1 Q
section
variable {X : Cx} {K : PySem.W.Frag} {fI D C : Addr} {fd : FuncData} {x : Str} {p pos : Pos} {e : Expr} {ta : TA}
theorem pmk_err (F : FnOk X.prog X.w X.K X.mg X.base CX0 1 fI fd ["self", "value"] (spErr X.K fI D)) (hb : Binds X.K fd ["self", "value"] []) (TC : ErrC X.K fI D C) (hr : Room 2 X.A) (hg : Gl X x) (hm : X.mg x = some (.ref C)) (ha : PA X [e] ta)
    (hdb : (x == ("__debug__" : Str)) = false := by decide) (he : starEach [e] X.env = (false, eval e X.env) :: starEach [] X.env := by rfl) (hpl : (backTo pos (starEach [] X.env)).any (·.1) = false := by rfl) :
    PMk X (.Call (.Name x p) [e] [] pos) (tErr C ta) := fun pins s σ H Q I h => by
  refine pmk_oex (sp := spErr X.K fI D) (dvs := []) TC.oex TC.init TC.tI F hr hb .nil pass0 hg hm (pa_cut ha) hdb he hpl pins s σ H Q I ⟨_, h, fun vs H1 z => ?_⟩
  obtain ⟨v, rfl, k⟩ := z
  refine ⟨by show 1 ≤ 1000; decide, fun a hn => ⟨a, C, v, rfl, TC, upd_same, fun dx hdx ne => ⟨rfl, dx, [("value", v)], upd_same, by rw [upd_ne ne, upd_same], ?_, ?_⟩⟩⟩
  · rw [upd_ne ne] at hdx
    exact hdx
  · rw [upd_ne ne] at hdx
    refine k dx _ hdx (fun b o hb => ?_) upd_same
    have n1 := ne_of_none hb hdx
    have n2 := ne_of_none hb hn
    rw [upd_ne n1, del_ne n2, upd_ne n2, upd_ne n1, upd_ne n2]
    exact hb
end
/-- calls of a def that may raise, in one that may -/
theorem passX {P : Program} {w : World} {K : PySem.W.Frag} {mg : Str → Option Value} {base : Heap} {N : List Str} {qual : Str} {scope : Scope} {f : Addr} {cd : Value} {A : Around} {outer : List Env} {s : Shared} {H : Hp} {E : XK} :
    Passes (L2.CX P w) (cxOf (L2.CX P w) P w K mg base N qual scope f cd A outer s H E) E := passes_call (X := cxOf (L2.CX P w) P w K mg base N qual scope f cd A outer s H E) (takes_of rfl rfl rfl rfl) (fun _ _ _ _ h => h)
/-! ### what the head's facts give -/
theorem along_ve (K : PySem.W.Frag) : PySem.W.alongIn K "__init__" PySem.HandSPX.veTail = some (some (.builtin "ValueError.__init__")) := by kernel_rfl
section
variable {K : PySem.W.Frag} {nm q : Str} {C D N : Addr} {bs : List Value} {sn : List Str} {sub : List Value} {ab : Bool} {col : Option Bool} {dd : Option Addr} {k0 k1 k2 k3 k5 : Option Value}
theorem sup_self (h : K.lookup C = some (excClassObj nm q C N bs PySem.HandSPX.veTail true sn sub ab col dd k0 k1 k2 k3 k5 "ValueError.__new__")) (e : C = D) : PySem.W.ks_superIn K C D "__init__" = some (some (.builtin "ValueError.__init__")) := by
  subst e
  unfold PySem.W.ks_superIn PySem.W.clsIn
  rw [h]
  show PySem.W.alongIn K "__init__" (((Value.ref C :: PySem.HandSPX.veTail).dropWhile (· != .ref C)).drop 1) = _
  rw [ESX.drop_own]
  exact along_ve K
theorem sup_child (h : K.lookup C = some (excClassObj nm q C N bs (.ref D :: PySem.HandSPX.veTail) true sn sub ab col dd k0 k1 k2 k3 k5 "ValueError.__new__")) (e : (C == D) = false) : PySem.W.ks_superIn K C D "__init__" = some (some (.builtin "ValueError.__init__")) := by
  unfold PySem.W.ks_superIn PySem.W.clsIn
  rw [h]
  show PySem.W.alongIn K "__init__" (((Value.ref C :: Value.ref D :: PySem.HandSPX.veTail).dropWhile (· != .ref D)).drop 1) = _
  have ne : ((Value.ref C : Value) != .ref D) = true := by
    have : C ≠ D := by simpa using e
    simp [this]
  rw [List.dropWhile_cons, if_pos ne, ESX.drop_own]
  exact along_ve K
theorem exm_gen {S S' : Addr} {b : Bool} (h1 : PySem.W.subIn K (.ref S') (.type "BaseException") = some true) (h2 : PySem.W.isClsIn K S' = true) (h3 : PySem.W.typeIn K (.ref S') = some (.type "type")) (h4 : PySem.W.subIn K (.ref S) (.ref S') = some b) :
    PySem.W.exmOne K (.ref S) (.ref S') = some b := by
  have e1 : (PySem.W.subIn K (.ref S') (.type "BaseException") == some true) = true := by rw [h1] <;> rfl
  have e2 : ((PySem.W.clsIn K S').isSome && PySem.W.typeIn K (.ref S') == some (.type "type")) = true := by
    have h2' : (PySem.W.clsIn K S').isSome = true := h2
    rw [h2', h3] <;> rfl
  show (if (PySem.W.subIn K (.ref S') (.type "BaseException") == some true) = true then (if ((PySem.W.clsIn K S').isSome && PySem.W.typeIn K (.ref S') == some (.type "type")) = true then PySem.W.subIn K (.ref S) (.ref S') else none) else none) = some b
  rw [if_pos e1, if_pos e2]
  exact h4
end
end My
set_option Elab.async false
set_option linter.all false
set_option maxRecDepth 100000
set_option maxHeartbeats 4000000
/-! Further rules: sum of a tuple, len of a range, calls by keywords of a def that may raise. -/
namespace My
open PySem PySem.Spec PyProof.Rows L2
section
variable {prog : Program} {w : World} {A : Around} {E : Value → Shared → Prop} {s : Shared} {l : Addr} {its : List Value} {ns : List Int} {Q : Value → Shared → Prop}
theorem sum_tupRaw (hh : A.handled = none) (hl : s.heap.IsTuple l its.toArray) (hi : IntsAre its ns)
    (h : ∀ h' tk t', (∀ b o, s.heap.get? b = some o → h'.get? b = some o) → Q (.int ns.sum t') { s with heap := h', toks := tk }) : wpAny (model prog w) A (call (.builtin "sum") [.ref l]) Q E s := by
  obtain ⟨xs, e⟩ := hi.allInts.items
  have hn : numsOf (intItems xs).toList = ns := by rw [← e]; exact hi.numsOf
  rw [nums_intItems] at hn
  rw [e] at hl
  have hlt : l < s.heap.objs.size := by obtain ⟨_, e, _⟩ := hl; exact Heap.lt_size e
  refine call_sum_walkG (wpAny_pyIter_tuple hl ?_)
  refine ⟨_, _, _, _, _, _, numAt xs, rfl, Walks.tuple (A := A.in1) hh _ l (Nat.ne_of_lt hlt) (intItems xs), ⟨⟨_, Heap.get?_push_size _ rfl, rfl, rfl⟩, ?_⟩, (fun b hb => ?_), (fun _ _ => intItems_at), fun h' tk t' hk => ?_⟩
  · obtain ⟨o, e1, e2⟩ := hl
    exact ⟨o, Heap.get?_push_of_some _ e1, e2⟩
  · show b < (s.heap.push _).objs.size
    rw [Heap.size_push]
    rcases List.mem_cons.mp hb with rfl | hb
    · exact Nat.lt_succ_self _
    · rcases List.mem_cons.mp hb with rfl | hb
      · exact Nat.lt_succ_of_lt hlt
      · cases hb
  · have := h h' tk t' (fun b o e => hk b o (fun hm => by
      have z : b = s.heap.objs.size := by simpa using hm
      exact Nat.ne_of_lt (Heap.lt_size e) z) (Heap.get?_push_of_some _ e))
    have e2 : preSum (numAt xs) (intItems xs).size = ns.sum := by
      rw [preSum_eq, List.take_of_length_le (by simp [intItems]), hn]
    rw [e2]
    exact this
end
section
variable {X : Cx}
def rSumT (K : PySem.W.Frag) : List V → Hp → VK → Prop := fun vs H Q => ∃ (a : Addr) (ns : List Int), vs = [V.ref a] ∧ SqT K H a (ns.map V.int) ∧ Q (.int ns.sum) H
theorem cr_sumT (hc : X.calm = true) : CallR X (.builtin "sum") (rSumT X.K) := by
  intro pins s σ H vs us Q I r h
  obtain ⟨a, ns, rfl, hs, q⟩ := h
  obtain ⟨its, rv, hl, _⟩ := I.tuple hs
  rw [Vals.ref1 r]
  exact sum_tupRaw (I.ok.hd hc) hl rv.ints fun h' tk t' hk => ⟨.int _, H, I.kept hk, ⟨_, rfl⟩, q⟩
/-- len(range(a, b)) -/
def rLenR : List V → Hp → VK → Prop := fun vs H Q => ∃ (p : Addr) (lo hi : Int), vs = [V.ref p] ∧ H p = some (.rng lo hi) ∧ hi - lo < 2 ^ 62 ∧ Q (.int (if lo < hi then hi - lo else 0)) H
theorem call_lenR : CallR X (.builtin "len") rLenR := by
  intro pins s σ H vs us Q I r h
  obtain ⟨p, lo, hi, rfl, hp, hz, q⟩ := h
  rw [Vals.ref1 r]
  obtain ⟨t, u, v, ho⟩ := (show ObjOk X.prog X.w H s.heap p (.rng lo hi) from I.hok p _ hp)
  have e : ((if lo < hi then hi - lo else 0 : Int)) = (((if lo < hi then hi - lo else 0 : Int)).toNat : Int) := by split <;> omega
  refine call_len_range (n := ((if lo < hi then hi - lo else 0 : Int)).toNat) (a := lo) (b := hi) (c := 1) ho ?_ ?_ ?_
  · rw [rangeSize_one, ← e]
  · rw [← e]
    split <;> omega
  · rw [← e]
    exact ⟨.int _, H, I.tok _, ⟨_, rfl⟩, q⟩
def rRangeG : List V → Hp → VK → Prop := fun vs H Q => ∃ i j, vs = [V.int i, V.int j] ∧ New (.rng i j) H Q
theorem cr_rangeG : CallR X (.type "range") rRangeG := fun pins s σ H xs us Q I r ⟨i, j, h1, k⟩ => cr_range2 pins s σ H xs us Q I r ⟨i, j, h1, fun p hp => k.go p hp⟩
end
section
variable {X : Cx} {CX : CXT} {k : Nat} {f C : Addr} {fd : FuncData} {ps ks : List Str} {sp : Sp} {E : L2.St → XK} {x m : Str} {p pos apos kpos : Pos} {kws : List Keyword} {tk : TA} {g : List Value → List Value → List Value} {gV : List V → List V → List V}
theorem run_fnkS {pins : List (Addr × Obj)} {σ : L2.St} {H : Hp} {s : Shared} {Q : VK} {us ws : List Value} {vs zs : List V} (F : FnOk X.prog X.w X.K X.mg X.base CX k f fd ps sp) (hr : Room k X.A) (hb : KBinds X.K fd ps ks g gV) (hx : PassesAt CX X σ (E σ))
    (I : Inv X pins σ H s) (r : Vals vs us) (rz : Vals zs ws) (h : sp (gV vs zs) H Q (E σ)) : wpAny (model X.prog X.w) X.A (call (.ref f) us (ks.zip ws)) (EP X pins σ Q) X.xe s := by
  have r2 := hb.rel r rz
  have hl : (g us ws).length = ps.length := by rw [← r2.length]; exact F.len _ _ _ _ h
  refine wpAny_call (codeAny_mono (F.run X.A X.stack s H ⟨us, ks.zip ws⟩ (g us ws) (gV vs zs) Q (E σ) hr I.env0 (hb.to s us ws I.kIn hl) r2 h) fun r s' hq => ?_)
  cases r with
  | error e => exact hx pins H s e s' I hq
  | ok fl =>
    cases fl with
    | ret u => exact I.after hq
    | next => exact False.elim hq
    | brk => exact False.elim hq
    | cont => exact False.elim hq
def tCallKS (sp : Sp) (gV : List V → List V → List V) (E : L2.St → XK) (t tk : TA) : TE := fun σ H Q => t σ H fun vs H1 => tk σ H1 fun zs H2 => sp (gV vs zs) H2 Q (E σ)
/-- f(k = v, ..) in a try -/
theorem pe_callK0S (F : FnOk X.prog X.w X.K X.mg X.base CX k f fd ps sp) (hr : Room k X.A) (hg : Gl X x) (hm : X.mg x = some (.ref f)) (hk : PySem.W.keepIn X.K (.ref f) = true) (hb : KBinds X.K fd ps ks g gV) (hx : ∀ σ, PassesAt CX X σ (E σ))
    (hkw : PK X kws tk) (hall : (backToKw pos (keywordEach kws X.env)).all (·.1.isSome) = true := by rfl) (hks : (backToKw pos (keywordEach kws X.env)).filterMap (·.1) = ks := by rfl)
    (hdb : (x == ("__debug__" : Str)) = false := by decide)
    (hpl : ((backTo pos (starEach [] X.env)).any (·.1) || (backToKw pos (keywordEach kws X.env)).any (·.1.isNone)) = false := by rfl) :
    PE X (.Call (.Name x p) [] kws pos) (tCallKS sp gV E tNil tk) := by
  refine ⟨fun pins s σ H Q I h => ?_⟩
  refine wpAny_Call_Name_kw (ld_glob I hg hm ?_ hdb)
  refine PySem.W.callWith_KW0 (h₀ := X.base) I.ok.mod.kin hk hall ?_ hpl
  refine thn (hkw.run pos pins s σ H _ I h) fun ws s2 ⟨zs, H2, I2, rz, q2⟩ => ⟨I2.kIn, ?_⟩
  rw [hks]
  exact run_fnkS (us := []) (vs := []) F hr hb (hx σ) I2 .nil rz q2
variable {e : Expr} {es : List Expr} {t : TA}
/-- f(e, .., k = v, ..) in a try -/
theorem pe_callKS (F : FnOk X.prog X.w X.K X.mg X.base CX k f fd ps sp) (hr : Room k X.A) (hg : Gl X x) (hm : X.mg x = some (.ref f)) (hk : PySem.W.keepIn X.K (.ref f) = true) (hb : KBinds X.K fd ps ks g gV) (hx : ∀ σ, PassesAt CX X σ (E σ))
    (ha : PA X (e :: es) t) (hkw : PK X kws tk) (hall : (backToKw pos (keywordEach kws X.env)).all (·.1.isSome) = true := by rfl) (hks : (backToKw pos (keywordEach kws X.env)).filterMap (·.1) = ks := by rfl)
    (hdb : (x == ("__debug__" : Str)) = false := by decide) (he : starEach (e :: es) X.env = (false, eval e X.env) :: starEach es X.env := by rfl)
    (hpl : ((backTo pos (starEach (e :: es) X.env)).any (·.1) || (backToKw pos (keywordEach kws X.env)).any (·.1.isNone)) = false := by rfl) :
    PE X (.Call (.Name x p) (e :: es) kws pos) (tCallKS sp gV E t tk) := by
  refine ⟨fun pins s σ H Q I h => ?_⟩
  refine wpAny_Call_Name_kw (ld_glob I hg hm ?_ hdb)
  refine PySem.W.callWith_KW (h₀ := X.base) I.ok.mod.kin hk hall (thn (ha.run pos pins s σ H _ I h) fun us s1 ⟨vs, H1, I1, r, q⟩ => ?_) hpl he
  refine thn (hkw.run pos pins s1 σ H1 _ I1 q) fun ws s2 ⟨zs, H2, I2, rz, q2⟩ => ⟨I2.kIn, ?_⟩
  rw [hks]
  exact run_fnkS F hr hb (hx σ) I2 r rz q2
end
/-! rules within a comprehension: what may be kept by name is that of the def -/
section
variable {X : Cx} {K : PySem.W.Frag}
theorem crK {f : Value} {r : PySem.W.Frag → List V → Hp → VK → Prop} (h : X.K = K) (c : CallR X f (r X.K)) : CallR X f (r K) := h ▸ c
theorem ixK {r : PySem.W.Frag → R2} (h : X.K = K) (c : IxR X (r X.K)) : IxR X (r K) := h ▸ c
theorem opK {f : Value → Value → Sem Value} {r : PySem.W.Frag → R2} (h : X.K = K) (c : OpR X f (r X.K)) : OpR X f (r K) := h ▸ c
def rLenSq (K : PySem.W.Frag) : List V → Hp → VK → Prop := fun xs H Q => ∃ p ys, xs = [.ref p] ∧ (SqL K H p ys ∨ SqT K H p ys) ∧ Q (.int ys.length) H
end
end My
set_option Elab.async false
set_option linter.all false
set_option maxRecDepth 100000
set_option maxHeartbeats 4000000
/-! zip of three lists: the iterators lie at n, n + 1, n + 2, the tuples at n + 3, n + 4, the zip at n + 5. -/
namespace My
open PySem PySem.Spec PyProof.Rows L2
theorem typeCall_zip_3 (a b c : Value) : checkTypeCall "zip" ⟨[a, b, c], []⟩ = pure () := by kernel_rfl
theorem newCall_zip_3 (a b c : Value) : checkBuiltinCall "zip.__new__" ⟨[.type "zip", a, b, c], []⟩ = pure () := by kernel_rfl
theorem args_object_init_4 (a b c d : Value) : argsOk "object.__init__" ⟨[a, b, c, d], []⟩ := by
  unfold argsOk
  rw [signature?_of (id := "object.__init__") (n := ['_', '_', 't', 'i', 'n', 'i', '_', '_']) (o := ['t', 'c', 'e', 'j', 'b', 'o']) (by kernel_rfl) F.owner_object]
  kernel_rfl
abbrev IsTrip (h : Heap) (T : Addr) (a b c : Value) : Prop := h.get? T = some { cls := .type "tuple", data := .seq #[a, b, c] }
section
variable {prog : Program} {w : World} {A : Around} {E : Value → Shared → Prop} {s : Shared}
theorem updateSeq_trip {T : Addr} {a b c x : Value} {k : Nat} {Q : Unit → Shared → Prop} (hT : IsTrip s.heap T a b c)
    (h : ∀ h', h'.get? T = some { cls := .type "tuple", data := .seq ((#[a, b, c] : Array Value).setIfInBounds k x) } → Heap.SameBut T s.heap h' → Q () { s with heap := h' }) :
    wpAny (model prog w) A (updateSeq T (·.setIfInBounds k x)) Q E s := by
  refine wpAny_updateSeq hT rfl (h _ ?_ (Heap.SameBut.update ..))
  rw [Heap.get?_update_self _ hT rfl]
  simp [Obj.mapSeq]
variable {n l1 l2 l3 : Nat} {k : Nat} {xs ys zs : Array Value} {x y z a b c : Value}
/-- an item of each -/
theorem zip3_item {Q : Option Value → Shared → Prop} (g1 : l1 < n) (g2 : l2 < n) (g3 : l3 < n)
    (hz : IsZip s.heap (n + 5) (n + 3) (n + 4) .none) (hTI : IsTrip s.heap (n + 3) (.ref n) (.ref (n + 1)) (.ref (n + 2))) (hTO : IsTrip s.heap (n + 4) a b c)
    (h1 : s.heap.IsListIter n l1 k) (h2 : s.heap.IsListIter (n + 1) l2 k) (h3 : s.heap.IsListIter (n + 2) l3 k) (hl1 : s.heap.IsList l1 xs) (hl2 : s.heap.IsList l2 ys) (hl3 : s.heap.IsList l3 zs)
    (hx : xs[k]? = some x) (hy : ys[k]? = some y) (hzz : zs[k]? = some z)
    (hQ : ∀ h', IsZip h' (n + 5) (n + 3) (n + 4) (rawInt s.heap.objs.size) → IsTrip h' (n + 4) x y z → h'.IsListIter n l1 (k + 1) → h'.IsListIter (n + 1) l2 (k + 1) → h'.IsListIter (n + 2) l3 (k + 1) →
      IsTrip h' s.heap.objs.size x y z → h'.objs.size = s.heap.objs.size + 1 →
      (∀ c o, c ≠ n + 5 → c ≠ n + 4 → c ≠ n → c ≠ n + 1 → c ≠ n + 2 → s.heap.get? c = some o → h'.get? c = some o) → Q (some (.ref s.heap.objs.size)) { s with heap := h' }) :
    wpAny (model prog w) A (pyNext (.ref (n + 5))) Q E s := by
  have hT : s.TypeIs (.ref (n + 5)) "zip" := ⟨_, hz, rfl⟩
  have ne : ∀ {p q : Nat}, p < q → (p : Addr) ≠ q := fun h => Nat.ne_of_lt h
  have ne' : ∀ {p q : Nat}, q < p → (p : Addr) ≠ q := fun h => Nat.ne_of_gt h
  unfold pyNext
  refine wpAny_bind (wpAny_attempt (wpAny_callSpecial?_slot (name := Str.ofString "__next__") hT F.slot_zip_next
    (wpAny_call_entry F.slot_zip_next hT F.entry_zip_next (id ?_) (F.args_zip_next_1 _))))
  show wpAny _ _ (field (.ref (n + 5)) 2 >>= _) _ _ _
  refine wpAny_bind (wpAny_field hz rfl (x := .bool false) rfl ?_)
  show wpAny _ _ (field (.ref (n + 5)) 3 >>= _) _ _ _
  refine wpAny_bind (wpAny_field hz rfl (x := .ref (n + 3)) rfl ?_)
  refine wpAny_bind (wpAny_seqItems hTI rfl ?_)
  show wpAny _ _ (Builtin.SmallTypes.ownedTupleIsFree (.ref (n + 5)) >>= _) _ _ _
  refine wpAny_bind ?_
  unfold Builtin.SmallTypes.ownedTupleIsFree
  refine wpAny_bind (wpAny_field hz rfl (x := .none) rfl (wpAny_pure ?_))
  simp only [if_true]
  refine wpAny_bind (wpAny_rule ?_)
  refine wpAny_bind (wpAny_field hz rfl (x := .ref (n + 4)) rfl ?_)
  refine wpAny_bind (wpAny_setField_rec hz (by simp) fun ha hza sa => ?_)
  replace hza : IsZip ha (n + 5) (n + 3) (n + 4) .ellipsis := hza
  refine wpAny_bind ?_
  simp only [List.zipIdx_cons, List.zipIdx_nil, List.forIn_cons, List.forIn_nil]
  -- the first
  refine wpAny_bind (wpAny_bind (wpAny_onRaise ?_))
  show wpAny _ _ (Builtin.SmallTypes.nextOf (.ref n) >>= _) _ _ _
  refine wpAny_bind (wpAny_nextOf_list_item (h1.extBut sa.extBut (ne (by omega))) (hl1.extBut sa.extBut (ne (by omega))) hx fun hb h1b sb => wpAny_pure ?_)
  have Tb : IsTrip hb (n + 4) a b c := sb.extBut _ _ (ne' (by omega)) (sa.extBut _ _ (ne (by omega)) hTO)
  refine wpAny_bind (wpAny_seqItems Tb rfl ?_)
  refine wpAny_bind (updateSeq_trip Tb fun hc Tc sc => ?_)
  replace Tc : IsTrip hc (n + 4) x b c := Tc
  refine wpAny_bind (wpAny_letGo (wpAny_pure ?_))
  -- the second
  refine wpAny_bind (wpAny_bind (wpAny_onRaise ?_))
  show wpAny _ _ (Builtin.SmallTypes.nextOf (.ref (n + 1)) >>= _) _ _ _
  have upc : ∀ q o, q ≠ n + 5 → q ≠ n → q ≠ n + 4 → s.heap.get? q = some o → hc.get? q = some o := fun q o c1 c2 c3 e => sc.extBut _ _ c3 (sb.extBut _ _ c2 (sa.extBut _ _ c1 e))
  refine wpAny_bind (wpAny_nextOf_list_item (h2.at fun o e => upc _ o (ne (by omega)) (ne' (by omega)) (ne (by omega)) e) (hl2.at fun o e => upc _ o (ne (by omega)) (ne (by omega)) (ne (by omega)) e) hy fun hd h2d sd => wpAny_pure ?_)
  have Td : IsTrip hd (n + 4) x b c := sd.extBut _ _ (ne' (by omega)) Tc
  refine wpAny_bind (wpAny_seqItems Td rfl ?_)
  refine wpAny_bind (updateSeq_trip Td fun he Te se => ?_)
  replace Te : IsTrip he (n + 4) x y c := Te
  refine wpAny_bind (wpAny_letGo (wpAny_pure ?_))
  -- the third
  refine wpAny_bind (wpAny_bind (wpAny_onRaise ?_))
  show wpAny _ _ (Builtin.SmallTypes.nextOf (.ref (n + 2)) >>= _) _ _ _
  have upe : ∀ q o, q ≠ n + 5 → q ≠ n → q ≠ n + 1 → q ≠ n + 4 → s.heap.get? q = some o → he.get? q = some o := fun q o c1 c2 c3 c4 e => se.extBut _ _ c4 (sd.extBut _ _ c3 (upc q o c1 c2 c4 e))
  refine wpAny_bind (wpAny_nextOf_list_item (h3.at fun o e => upe _ o (ne (by omega)) (ne' (by omega)) (ne' (by omega)) (ne (by omega)) e) (hl3.at fun o e => upe _ o (ne (by omega)) (ne (by omega)) (ne (by omega)) (ne (by omega)) e) hzz fun hf h3f sf => wpAny_pure ?_)
  have Tf : IsTrip hf (n + 4) x y c := sf.extBut _ _ (ne' (by omega)) Te
  refine wpAny_bind (wpAny_seqItems Tf rfl ?_)
  refine wpAny_bind (updateSeq_trip Tf fun hg Tg sg => ?_)
  replace Tg : IsTrip hg (n + 4) x y z := Tg
  refine wpAny_bind (wpAny_letGo (wpAny_pure (wpAny_pure ?_)))
  -- the tuple
  refine wpAny_bind (wpAny_seqItems Tg rfl ?_)
  refine wpAny_bind (wpAny_newTuple ?_)
  have hsz : hg.objs.size = s.heap.objs.size := by rw [sg.1, sf.1, se.1, sd.1, sc.1, sb.1, sa.1]
  have zg : IsZip hg (n + 5) (n + 3) (n + 4) .ellipsis := sg.extBut _ _ (ne' (by omega)) (sf.extBut _ _ (ne' (by omega)) (se.extBut _ _ (ne' (by omega)) (sd.extBut _ _ (ne' (by omega)) (sc.extBut _ _ (ne' (by omega)) (sb.extBut _ _ (ne' (by omega)) hza)))))
  have upg : ∀ q o, q ≠ n + 5 → q ≠ n + 4 → q ≠ n → q ≠ n + 1 → q ≠ n + 2 → s.heap.get? q = some o → hg.get? q = some o := fun q o c1 c2 c3 c4 c5 e => sg.extBut _ _ c2 (sf.extBut _ _ c5 (upe q o c1 c3 c4 c2 e))
  have h1g : hg.IsListIter n l1 (k + 1) := ((((h1b.extBut sc.extBut (ne (by omega))).extBut sd.extBut (ne (by omega))).extBut se.extBut (ne (by omega))).extBut sf.extBut (ne (by omega))).extBut sg.extBut (ne (by omega))
  have h2g : hg.IsListIter (n + 1) l2 (k + 1) := ((h2d.extBut se.extBut (ne (by omega))).extBut sf.extBut (ne (by omega))).extBut sg.extBut (ne (by omega))
  have h3g : hg.IsListIter (n + 2) l3 (k + 1) := h3f.extBut sg.extBut (ne (by omega))
  have zlt : n + 5 < hg.objs.size := Heap.lt_size zg
  show wpAny _ _ (Builtin.SmallTypes.ownedTupleHandOut (.ref (n + 5)) (.ref hg.objs.size) >>= _) _ _ _
  refine wpAny_bind ?_
  unfold Builtin.SmallTypes.ownedTupleHandOut
  have zh : IsZip (hg.push { cls := .type "tuple", data := .seq #[x, y, z] }) (n + 5) (n + 3) (n + 4) .ellipsis := Heap.get?_push_of_some _ zg
  refine wpAny_bind (wpAny_setField_rec zh (by simp) fun hi zi si => ?_)
  replace zi : IsZip hi (n + 5) (n + 3) (n + 4) (rawInt hg.objs.size) := zi
  refine wpAny_setField_rec zi (by simp) fun hj zj sj => ?_
  replace zj : IsZip hj (n + 5) (n + 3) (n + 4) (rawInt hg.objs.size) := zj
  have up : ∀ q o, q ≠ n + 5 → hg.get? q = some o → hj.get? q = some o := fun q o c1 e => sj.extBut _ _ c1 (si.extBut _ _ c1 (Heap.get?_push_of_some _ e))
  have Tj : IsTrip hj hg.objs.size x y z := sj.extBut _ _ (Nat.ne_of_gt zlt) (si.extBut _ _ (Nat.ne_of_gt zlt) (Heap.get?_push_size _ rfl))
  have szj : hj.objs.size = hg.objs.size + 1 := by rw [sj.1, si.1, Heap.size_push]
  rw [hsz] at zj Tj szj
  refine wpAny_pure ⟨_, rfl, ?_⟩
  rw [hsz]
  refine wpAny_pure ?_
  exact hQ hj zj (up _ _ (ne (by omega)) Tg) (h1g.at fun o e => up _ o (ne (by omega)) e) (h2g.at fun o e => up _ o (ne (by omega)) e) (h3g.at fun o e => up _ o (ne (by omega)) e) Tj szj fun q o c1 c2 c3 c4 c5 e => up q o c1 (upg q o c1 c2 c3 c4 c5 e)
/-- the second list has come to its end -/
theorem zip3_end {Q : Option Value → Shared → Prop} (hh : A.handled = none) (g1 : l1 < n) (g2 : l2 < n) (g3 : l3 < n)
    (hz : IsZip s.heap (n + 5) (n + 3) (n + 4) .none) (hTI : IsTrip s.heap (n + 3) (.ref n) (.ref (n + 1)) (.ref (n + 2))) (hTO : IsTrip s.heap (n + 4) a b c)
    (h1 : s.heap.IsListIter n l1 k) (h2 : s.heap.IsListIter (n + 1) l2 k) (h3 : s.heap.IsListIter (n + 2) l3 k) (hl1 : s.heap.IsList l1 xs) (hl2 : s.heap.IsList l2 ys)
    (hx : xs[k]? = some x) (hy : ys[k]? = none)
    (hQ : ∀ h', (∀ c o, c ≠ n + 5 → c ≠ n + 4 → c ≠ n → c ≠ n + 1 → c ≠ n + 2 → s.heap.get? c = some o → h'.get? c = some o) → Q none { s with heap := h' }) :
    wpAny (model prog w) A (pyNext (.ref (n + 5))) Q E s := by
  have hT : s.TypeIs (.ref (n + 5)) "zip" := ⟨_, hz, rfl⟩
  have ne : ∀ {p q : Nat}, p < q → (p : Addr) ≠ q := fun h => Nat.ne_of_lt h
  have ne' : ∀ {p q : Nat}, q < p → (p : Addr) ≠ q := fun h => Nat.ne_of_gt h
  have fin : ∀ h' e, (∀ c o, c ≠ n + 5 → c ≠ n + 4 → c ≠ n → c ≠ n + 1 → c ≠ n + 2 → s.heap.get? c = some o → h'.get? c = some o) → (∃ o, h'.get? e = some o ∧ o.cls = .type "StopIteration") →
      wpAny (model prog w) A (do if (← isInstance (.ref e) (.type "StopIteration")) then pure none else throw (.ref e)) Q E { s with heap := h' } := fun h' e hk he => by
    obtain ⟨o, ho, hc⟩ := he
    refine wpAny_bind (wpAny_isInstance (T := "StopIteration") (b := true) ⟨o, ho, hc⟩ isSubtype_stop ?_)
    exact wpAny_pure (hQ _ hk)
  unfold pyNext
  refine wpAny_bind (wpAny_attempt (wpAny_callSpecial?_slot (name := Str.ofString "__next__") hT F.slot_zip_next
    (wpAny_call_entry F.slot_zip_next hT F.entry_zip_next (id ?_) (F.args_zip_next_1 _))))
  show wpAny _ _ (field (.ref (n + 5)) 2 >>= _) _ _ _
  refine wpAny_bind (wpAny_field hz rfl (x := .bool false) rfl ?_)
  show wpAny _ _ (field (.ref (n + 5)) 3 >>= _) _ _ _
  refine wpAny_bind (wpAny_field hz rfl (x := .ref (n + 3)) rfl ?_)
  refine wpAny_bind (wpAny_seqItems hTI rfl ?_)
  show wpAny _ _ (Builtin.SmallTypes.ownedTupleIsFree (.ref (n + 5)) >>= _) _ _ _
  refine wpAny_bind ?_
  unfold Builtin.SmallTypes.ownedTupleIsFree
  refine wpAny_bind (wpAny_field hz rfl (x := .none) rfl (wpAny_pure ?_))
  simp only [if_true]
  refine wpAny_bind (wpAny_rule ?_)
  refine wpAny_bind (wpAny_field hz rfl (x := .ref (n + 4)) rfl ?_)
  refine wpAny_bind (wpAny_setField_rec hz (by simp) fun ha hza sa => ?_)
  replace hza : IsZip ha (n + 5) (n + 3) (n + 4) .ellipsis := hza
  refine wpAny_bind ?_
  simp only [List.zipIdx_cons, List.zipIdx_nil, List.forIn_cons, List.forIn_nil]
  refine wpAny_bind (wpAny_bind (wpAny_onRaise ?_))
  show wpAny _ _ (Builtin.SmallTypes.nextOf (.ref n) >>= _) _ _ _
  refine wpAny_bind (wpAny_nextOf_list_item (h1.extBut sa.extBut (ne (by omega))) (hl1.extBut sa.extBut (ne (by omega))) hx fun hb h1b sb => wpAny_pure ?_)
  have Tb : IsTrip hb (n + 4) a b c := sb.extBut _ _ (ne' (by omega)) (sa.extBut _ _ (ne (by omega)) hTO)
  refine wpAny_bind (wpAny_seqItems Tb rfl ?_)
  refine wpAny_bind (updateSeq_trip Tb fun hc Tc sc => ?_)
  refine wpAny_bind (wpAny_letGo (wpAny_pure ?_))
  refine wpAny_bind (wpAny_bind (wpAny_onRaise ?_))
  show wpAny _ _ (Builtin.SmallTypes.nextOf (.ref (n + 1)) >>= _) _ _ _
  have upc : ∀ q o, q ≠ n + 5 → q ≠ n → q ≠ n + 4 → s.heap.get? q = some o → hc.get? q = some o := fun q o c1 c2 c3 e => sc.extBut _ _ c3 (sb.extBut _ _ c2 (sa.extBut _ _ c1 e))
  refine wpAny_bind (wpAny_nextOf_list_end hh (h2.at fun o e => upc _ o (ne (by omega)) (ne' (by omega)) (ne (by omega)) e) (hl2.at fun o e => upc _ o (ne (by omega)) (ne (by omega)) (ne (by omega)) e) hy fun hd e sd he => ?_)
  obtain ⟨oe, hoe, hce⟩ := he
  have zd : IsZip hd (n + 5) (n + 3) (n + 4) .ellipsis := sd _ _ (ne' (by omega)) (sc.extBut _ _ (ne' (by omega)) (sb.extBut _ _ (ne' (by omega)) hza))
  have hez : e ≠ n + 5 := fun x => by
    subst x
    rw [zd] at hoe
    cases hoe
    simp at hce
  refine wpAny_setField_rec zd (by simp) fun h5 _ s5 => ?_
  refine fin h5 e (fun q o c1 c2 c3 c4 c5 x => s5.extBut _ _ c1 (sd _ _ c4 (upc q o c1 c3 c2 x))) ⟨oe, s5.extBut _ _ hez hoe, hce⟩
abbrev z3H1 (h : Heap) (l1 : Addr) : Heap := h.push { cls := .type "list_iterator", data := .fields #[.ref l1, .int 0 0] }
abbrev z3H2 (h : Heap) (l1 l2 : Addr) : Heap := (z3H1 h l1).push { cls := .type "list_iterator", data := .fields #[.ref l2, .int 0 0] }
abbrev z3H3 (h : Heap) (l1 l2 l3 : Addr) : Heap := (z3H2 h l1 l2).push { cls := .type "list_iterator", data := .fields #[.ref l3, .int 0 0] }
abbrev z3H4 (h : Heap) (l1 l2 l3 : Addr) : Heap := (z3H3 h l1 l2 l3).push { cls := .type "tuple", data := .seq #[.ref h.objs.size, .ref (z3H1 h l1).objs.size, .ref (z3H2 h l1 l2).objs.size] }
abbrev z3H5 (h : Heap) (l1 l2 l3 : Addr) : Heap := (z3H4 h l1 l2 l3).push { cls := .type "tuple", data := .seq #[.none, .none, .none] }
abbrev z3H6 (h : Heap) (l1 l2 l3 : Addr) : Heap := (z3H5 h l1 l2 l3).push { cls := .type "zip", data := .fields #[.none, .bool false, .bool false, .ref (z3H3 h l1 l2 l3).objs.size, .ref (z3H4 h l1 l2 l3).objs.size] }
theorem meets_zip_new3 (l1 l2 l3 : Addr) (xs ys zs : Array Value) :
    Meets (Builtin.«zip.__new__» ⟨[.type "zip", .ref l1, .ref l2, .ref l3], []⟩) (fun _ R s => s.heap.IsList l1 xs ∧ s.heap.IsList l2 ys ∧ s.heap.IsList l3 zs ∧
      R (.ok (.ret (.ref (z3H5 s.heap l1 l2 l3).objs.size))) { s with heap := z3H6 s.heap l1 l2 l3 }) :=
  .of_wp fun prog w A R s h => by
    obtain ⟨hp, g, d, tk, os⟩ := s
    obtain ⟨hl1, hl2, hl3, h⟩ := h
    have hsub := sub_zip
    have hL1 : Heap.IsList (Shared.heap ⟨hp, g, d, tk, os⟩) l1 xs := hl1
    have hL2 : Heap.IsList (Shared.heap ⟨hp.push { cls := .type "list_iterator", data := .fields #[.ref l1, .int 0 0] }, g, d, tk, os⟩) l2 ys := Heap.IsList.push hl2 _
    have hL3 : Heap.IsList (Shared.heap ⟨(hp.push { cls := .type "list_iterator", data := .fields #[.ref l1, .int 0 0] }).push { cls := .type "list_iterator", data := .fields #[.ref l2, .int 0 0] }, g, d, tk, os⟩) l3 zs := Heap.IsList.push (Heap.IsList.push hl3 _) _
    wp_walk using wpAny_pyIter_list hL1, wpAny_pyIter_list hL2, wpAny_pyIter_list hL3
    exact ⟨_, rfl, h⟩
theorem call_zip_3 {l1 l2 l3 : Addr} {xs ys zs : Array Value} {Q : Value → Shared → Prop} (hl1 : s.heap.IsList l1 xs) (hl2 : s.heap.IsList l2 ys) (hl3 : s.heap.IsList l3 zs)
    (h : ∀ h', IsZip h' (s.heap.objs.size + 5) (s.heap.objs.size + 3) (s.heap.objs.size + 4) .none → IsTrip h' (s.heap.objs.size + 3) (.ref s.heap.objs.size) (.ref (s.heap.objs.size + 1)) (.ref (s.heap.objs.size + 2)) →
      IsTrip h' (s.heap.objs.size + 4) .none .none .none → h'.IsListIter s.heap.objs.size l1 0 → h'.IsListIter (s.heap.objs.size + 1) l2 0 → h'.IsListIter (s.heap.objs.size + 2) l3 0 →
      (∀ c o, s.heap.get? c = some o → h'.get? c = some o) → Q (.ref (s.heap.objs.size + 5)) { s with heap := h' }) :
    wpAny (model prog w) A (call (.type "zip") [.ref l1, .ref l2, .ref l3]) Q E s := by
  refine callType_new F.called_zip (by decide) (typeCall_zip_3 _ _ _) (newCall_zip_3 _ _ _) (fun obj => args_object_init_4 obj _ _ _) F.entry_zip_new
    (meets_zip_new3 l1 l2 l3 xs ys zs) ⟨hl1, hl2, hl3, ?_⟩
  have z1 : (z3H1 s.heap l1).objs.size = s.heap.objs.size + 1 := Heap.size_push ..
  have z2 : (z3H2 s.heap l1 l2).objs.size = s.heap.objs.size + 2 := by rw [Heap.size_push, z1]
  have z3 : (z3H3 s.heap l1 l2 l3).objs.size = s.heap.objs.size + 3 := by rw [Heap.size_push, z2]
  have z4 : (z3H4 s.heap l1 l2 l3).objs.size = s.heap.objs.size + 4 := by rw [Heap.size_push, z3]
  have z5 : (z3H5 s.heap l1 l2 l3).objs.size = s.heap.objs.size + 5 := by rw [Heap.size_push, z4]
  have g6 : (z3H6 s.heap l1 l2 l3).get? (z3H5 s.heap l1 l2 l3).objs.size = some _ := Heap.get?_push_size _ rfl
  have g5 : (z3H6 s.heap l1 l2 l3).get? (z3H4 s.heap l1 l2 l3).objs.size = some _ := Heap.get?_push_of_some _ (Heap.get?_push_size _ rfl)
  have g4 : (z3H6 s.heap l1 l2 l3).get? (z3H3 s.heap l1 l2 l3).objs.size = some _ := Heap.get?_push_of_some _ (Heap.get?_push_of_some _ (Heap.get?_push_size _ rfl))
  have g3 : (z3H6 s.heap l1 l2 l3).get? (z3H2 s.heap l1 l2).objs.size = some _ := Heap.get?_push_of_some _ (Heap.get?_push_of_some _ (Heap.get?_push_of_some _ (Heap.get?_push_size _ rfl)))
  have g2 : (z3H6 s.heap l1 l2 l3).get? (z3H1 s.heap l1).objs.size = some _ := Heap.get?_push_of_some _ (Heap.get?_push_of_some _ (Heap.get?_push_of_some _ (Heap.get?_push_of_some _ (Heap.get?_push_size _ rfl))))
  have g1 : (z3H6 s.heap l1 l2 l3).get? s.heap.objs.size = some _ := Heap.get?_push_of_some _ (Heap.get?_push_of_some _ (Heap.get?_push_of_some _ (Heap.get?_push_of_some _ (Heap.get?_push_of_some _ (Heap.get?_push_size _ rfl)))))
  show _ ∧ _
  rw [z3, z4, z5] at g6
  rw [z1, z2, z3] at g4
  rw [z4] at g5
  rw [z2] at g3
  rw [z1] at g2
  rw [z5]
  exact ⟨⟨_, g6, rfl⟩, h _ g6 g4 g5 ⟨_, g1, rfl, rfl⟩ ⟨_, g2, rfl, rfl⟩ ⟨_, g3, rfl, rfl⟩ fun c o x =>
    Heap.get?_push_of_some _ (Heap.get?_push_of_some _ (Heap.get?_push_of_some _ (Heap.get?_push_of_some _ (Heap.get?_push_of_some _ (Heap.get?_push_of_some _ x)))))⟩
end
/-- the lists at a, b, c; the first is longer -/
def Itz3 (K : PySem.W.Frag) (a b c : Addr) : It :=
  ⟨fun i H => ∃ (xs ys zs : List V) (x y z : V), SqL K H a xs ∧ SqL K H b ys ∧ SqL K H c zs ∧ xs[i]? = some x ∧ ys[i]? = some y ∧ zs[i]? = some z,
    fun i H v H' => ∃ T x y z, v = .ref T ∧ H T = none ∧ H' = upd H T (.tup [x, y, z]) ∧ (∀ xs, SqL K H a xs → xs[i]? = some x) ∧ (∀ ys, SqL K H b ys → ys[i]? = some y) ∧ ∀ zs, SqL K H c zs → zs[i]? = some z,
    fun i H => ∃ xs ys : List V, SqL K H a xs ∧ SqL K H b ys ∧ i < xs.length ∧ ys.length ≤ i⟩
theorem turn_zip3 {P : Program} {w : World} {K : PySem.W.Frag} {elts : List Expr} {kk : Nat} {tpos : Pos} {a b c n : Nat} (ga : a < n) (gb : b < n) (gc : c < n) :
    Turn P w K (.Tuple elts kk tpos) (Itz3 K a b c) [n, n + 1, n + 2, n + 3, n + 4, n + 5] (n + 5) (fun i h => IsZip h (n + 5) (n + 3) (n + 4) .none ∧ IsTrip h (n + 3) (.ref n) (.ref (n + 1)) (.ref (n + 2)) ∧ (∃ x y z, IsTrip h (n + 4) x y z) ∧ h.IsListIter n a i ∧ h.IsListIter (n + 1) b i ∧ h.IsListIter (n + 2) c i) where
  mem := by simp
  obj := fun i h st q hq => by
    obtain ⟨hz, hTI, ⟨x, y, z, hTO⟩, ⟨o1, e1, _, d1⟩, ⟨o2, e2, _, d2⟩, ⟨o3, e3, _, d3⟩⟩ := st
    have e' : q = n ∨ q = n + 1 ∨ q = n + 2 ∨ q = n + 3 ∨ q = n + 4 ∨ q = n + 5 := by simpa using hq
    rcases e' with e | e | e | e | e | e
    · rw [e]; exact ⟨o1, e1, fun v q => by rw [d1] at q; cases q⟩
    · rw [e]; exact ⟨o2, e2, fun v q => by rw [d2] at q; cases q⟩
    · rw [e]; exact ⟨o3, e3, fun v q => by rw [d3] at q; cases q⟩
    · rw [e]; exact ⟨_, hTI, fun v q => nomatch q⟩
    · rw [e]; exact ⟨_, hTO, fun v q => nomatch q⟩
    · rw [e]; exact ⟨_, hz, fun v q => nomatch q⟩
  keep := fun i h h' st k => by
    obtain ⟨hz, hTI, ⟨x, y, z, hTO⟩, h1, h2, h3⟩ := st
    exact ⟨k _ (by simp) _ hz, k _ (by simp) _ hTI, ⟨x, y, z, k _ (by simp) _ hTO⟩, h1.at fun o q => k _ (by simp) o q, h2.at fun o q => k _ (by simp) o q, h3.at fun o q => k _ (by simp) o q⟩
  item := by
    intro X hP hw hK hc i pins s σ H E I hf st hg
    subst hP hw hK
    obtain ⟨hz, hTI, ⟨x0, y0, z0, hTO⟩, h1, h2, h3⟩ := st
    obtain ⟨xs, ys, zs, x, y, z, hqx, hqy, hqz, hx, hy, hzz⟩ := hg
    obtain ⟨its, rv, p, _⟩ := I.list hqx
    obtain ⟨its2, rv2, p2, _⟩ := I.list hqy
    obtain ⟨its3, rv3, p3, _⟩ := I.list hqz
    obtain ⟨u, hu, ru⟩ := rv.get hx
    obtain ⟨u2, hu2, ru2⟩ := rv2.get hy
    obtain ⟨u3, hu3, ru3⟩ := rv3.get hzz
    have hzl : n + 5 < s.heap.objs.size := Heap.lt_size hz
    refine zip3_item ga gb gc hz hTI hTO h1 h2 h3 p.isList p2.isList p3.isList (x := u) (y := u2) (z := u3) (by simpa using hu) (by simpa using hu2) (by simpa using hu3) fun h' z' TO' h1' h2' h3' hT hsz hk => ?_
    refine ⟨_, rfl, wpAny_letOwnedTupleGo_zip (s := { s with heap := h' }) z' fun h'' z'' sb => ?_⟩
    have hT2 : h''.get? s.heap.objs.size = some { cls := .type "tuple", data := .seq #[u, u2, u3] } := (sb.2 _ (Nat.ne_of_gt hzl)).trans hT
    have new : ObjOk X.prog X.w (upd H s.heap.objs.size (.tup [x, y, z])) h'' s.heap.objs.size (.tup [x, y, z]) :=
      ⟨by show 3 ≤ sizeLine; decide, [u, u2, u3], .cons ru (.cons ru2 (.cons ru3 .nil)), ⟨_, hT2, rfl, _, rfl⟩⟩
    have I1 : Inv X pins σ (upd H s.heap.objs.size (.tup [x, y, z])) { s with heap := h'' } :=
      I.turnedNew (t' := s.toks) (ch := [n, n + 1, n + 2, n + 3, n + 4, n + 5]) (fun q o hb e => (sb.2 q (fun q' => hb (by simp [q']))).trans (hk q o (fun q' => hb (by simp [q'])) (fun q' => hb (by simp [q'])) (fun q' => hb (by simp [q'])) (fun q' => hb (by simp [q'])) (fun q' => hb (by simp [q'])) e)) hf (Nat.le_refl _) new
    have ne : ∀ {p q : Nat}, p < q → (p : Addr) ≠ q := fun h => Nat.ne_of_lt h
    have ne' : ∀ {p q : Nat}, q < p → (p : Addr) ≠ q := fun h => Nat.ne_of_gt h
    refine ⟨.ref s.heap.objs.size, _, I1, rfl, ⟨_, x, y, z, rfl, I.hok.fresh (Nat.le_refl _), rfl, fun l hl => by rw [I.list_inj hl hqx]; exact hx, fun l hl => by rw [I.list_inj hl hqy]; exact hy, fun l hl => by rw [I.list_inj hl hqz]; exact hzz⟩, ⟨z'', ?_, ⟨u, u2, u3, ?_⟩, ?_, ?_, ?_⟩, fun q hcm => ?_⟩
    · exact (sb.2 _ (ne (by omega))).trans (hk _ _ (ne (by omega)) (ne (by omega)) (ne' (by omega)) (ne' (by omega)) (ne' (by omega)) hTI)
    · exact (sb.2 _ (ne (by omega))).trans TO'
    · exact h1'.at fun o q => (sb.2 _ (ne (by omega))).trans q
    · exact h2'.at fun o q => (sb.2 _ (ne (by omega))).trans q
    · exact h3'.at fun o q => (sb.2 _ (ne (by omega))).trans q
    · have hlt : q < s.heap.objs.size := by
        have e' : q = n ∨ q = n + 1 ∨ q = n + 2 ∨ q = n + 3 ∨ q = n + 4 ∨ q = n + 5 := by simpa using hcm
        have hle : ∀ q : Nat, (q = n ∨ q = n + 1 ∨ q = n + 2 ∨ q = n + 3 ∨ q = n + 4 ∨ q = n + 5) → q ≤ n + 5 := fun q h => by omega
        exact Nat.lt_of_le_of_lt (hle q e') hzl
      rw [upd_ne (Nat.ne_of_lt hlt)]
      exact (hf q hcm).1
  done := by
    intro X hP hw hK hc i pins s σ H E I hf st hg
    subst hP hw hK
    obtain ⟨hz, hTI, ⟨x0, y0, z0, hTO⟩, h1, h2, h3⟩ := st
    obtain ⟨xs, ys, hqx, hqy, hi, hend⟩ := hg
    obtain ⟨its, rv, p, _⟩ := I.list hqx
    obtain ⟨its2, rv2, p2, _⟩ := I.list hqy
    have l1 := rv.length
    have l2 := rv2.length
    have hx : its.toArray[i]? = some (its[i]'(by omega)) := by simp
    exact zip3_end (I.ok.hd hc) ga gb gc hz hTI hTO h1 h2 h3 p.isList p2.isList hx (by simp; omega) fun h' hk => ⟨rfl, I.turnedL (t' := s.toks) (ch := [n, n + 1, n + 2, n + 3, n + 4, n + 5]) (fun q o hb e =>
      hk q o (fun q' => hb (by simp [q'])) (fun q' => hb (by simp [q'])) (fun q' => hb (by simp [q'])) (fun q' => hb (by simp [q'])) (fun q' => hb (by simp [q'])) e) hf⟩
  self := fun A i s Q E st h => wpAny_pyIter_zip st.1 h
def iZip3 (K : PySem.W.Frag) (ta : TA) : TI := fun σ H R => ta σ H fun vs H1 => ∃ a b c xs ys zs, vs = [.ref a, .ref b, .ref c] ∧ SqL K H1 a xs ∧ SqL K H1 b ys ∧ SqL K H1 c zs ∧ R (Itz3 K a b c) H1
theorem pi_zip3 {X : Cx} {e e2 e3 : Expr} {ta : TA} {p pos tpos : Pos} {elts : List Expr} {kk : Nat} (hg : Gl X "zip") (hm : X.mg "zip" = none) (ha : PA X [e, e2, e3] ta)
    (hs : starEach [e, e2, e3] X.env = (false, eval e X.env) :: starEach [e2, e3] X.env := by rfl) (hpl : (backTo pos (starEach [e2, e3] X.env)).any (·.1) = false := by rfl) :
    PI X (.Tuple elts kk tpos) (.Call (.Name "zip" p) [e, e2, e3] [] pos) (iZip3 X.K ta) := by
  refine ⟨fun pins s σ H R I h => ?_⟩
  refine Call_ (ld_blt I hg hm PyProof.Rows.boot_zip (PyProof.Rows.callWith_type1 (thn (ha.run pos pins s σ H _ I h) fun us s1 ⟨vs, H1, I1, r1, q1⟩ => ?_) hs hpl))
  obtain ⟨a, b, c, xs, ys, zs, ex, hqx, hqy, hqz, q⟩ := q1
  subst ex
  cases r1 with
  | cons r rr =>
    cases rr with
    | cons r' rr =>
      cases rr with
      | cons r'' rr =>
        cases rr
        cases r
        cases r'
        cases r''
        obtain ⟨its, rv, p1, _⟩ := I1.list hqx
        obtain ⟨its2, rv2, p2, _⟩ := I1.list hqy
        obtain ⟨its3, rv3, p3, _⟩ := I1.list hqz
        refine call_zip_3 p1.isList p2.isList p3.isList fun h' hz hTI hTO h1 h2 h3 hk => wpAny_pyIter_zip hz ?_
        have I2 : Inv X pins σ H1 { s1 with heap := h' } := I1.kept (t' := s1.toks) hk
        refine ⟨s1.heap.objs.size + 5, [s1.heap.objs.size, s1.heap.objs.size + 1, s1.heap.objs.size + 2, s1.heap.objs.size + 3, s1.heap.objs.size + 4, s1.heap.objs.size + 5], _, _, H1, rfl, I2, turn_zip3 p1.lt p2.lt p3.lt, ⟨hz, hTI, ⟨_, _, _, hTO⟩, h1, h2, h3⟩, fun q hcm => ?_, q⟩
        have e' : q = s1.heap.objs.size ∨ q = s1.heap.objs.size + 1 ∨ q = s1.heap.objs.size + 2 ∨ q = s1.heap.objs.size + 3 ∨ q = s1.heap.objs.size + 4 ∨ q = s1.heap.objs.size + 5 := by simpa using hcm
        have hle0 : ∀ m q : Nat, (q = m ∨ q = m + 1 ∨ q = m + 2 ∨ q = m + 3 ∨ q = m + 4 ∨ q = m + 5) → m ≤ q := fun m q h => by omega
        have hle : s1.heap.objs.size ≤ q := hle0 _ q e'
        exact I1.fpOk hle (I1.hok.fresh hle)
end My
set_option Elab.async false
set_option linter.all false
set_option maxRecDepth 100000
set_option maxHeartbeats 4000000
/-! a op b op c op d; try with several clauses that name the exception; loops over zip of three lists. -/
namespace My
open PySem PySem.Spec PyProof.Rows L2
section
variable {X : Cx} {a b c d : Expr} {pos : Pos} {ta tb tc td : TE}
def tChain3 (r r' r'' : R2) (ta tb tc td : TE) : TE := fun σ H Q => ta σ H fun x H1 => tb σ H1 fun y H2 => r x y H2 fun z H3 => ∃ k, z = .bl k ∧
  (if k = true then tc σ H3 fun w' H4 => r' y w' H4 fun z2 H5 => ∃ k2, z2 = .bl k2 ∧ (if k2 = true then td σ H5 fun v H6 => r'' w' v H6 Q else Q (.bl false) H5) else Q (.bl false) H3)
theorem pe_chain3 {op op' op'' : CmpOp} {r r' r'' : R2} (ho : OpR X (compareOp op) r) (ho' : OpR X (compareOp op') r') (ho'' : OpR X (compareOp op'') r'') (ha : PE X a ta) (hb : PE X b tb) (hc : PE X c tc) (hd : PE X d td)
    (hm : lastMarks [op, op', op''] [b, c, d] = false := by with_unfolding_all rfl) : PE X (.Compare a [op, op', op''] [b, c, d] pos) (tChain3 r r' r'' ta tb tc td) := by
  refine ⟨fun pins s σ H Q I h => ?_⟩
  refine Compare_chain (thn (ha.run pins s σ H _ I h) fun v s1 ⟨x, H1, I1, r1, q1⟩ => chain_link (thn (hb.run pins s1 σ H1 _ I1 q1) fun u s2 ⟨y, H2, I2, r2, q2⟩ =>
    thn (ho pins s2 σ H2 x y v u _ I2 r1 r2 q2) fun d s3 ⟨z, H3, I3, r3, k, e, q3⟩ => ?_)) hm
  subst e
  cases r3
  refine wpAny_truthy_bool ?_
  cases k with
  | false => exact ite_ff ⟨.bl false, H3, I3, rfl, q3⟩
  | true =>
    refine ite_tt (chain_link (thn (hc.run pins s3 σ H3 _ I3 q3) fun w' s4 ⟨z', H4, I4, r4, q4⟩ => thn (ho' pins s4 σ H4 y z' u w' _ I4 r2 r4 q4) fun d2 s5 ⟨z2, H5, I5, r5, k2, e2, q5⟩ => ?_))
    subst e2
    cases r5
    refine wpAny_truthy_bool ?_
    cases k2 with
    | false => exact ite_ff ⟨.bl false, H5, I5, rfl, q5⟩
    | true => exact ite_tt (chain_last (thn (hd.run pins s5 σ H5 _ I5 q5) fun w2 s6 ⟨z3, H6, I6, r6, q6⟩ => ho'' pins s6 σ H6 z' z3 w' w2 Q I6 r4 r6 q6))
theorem pt_chain3 {op op' op'' : CmpOp} {r r' r'' : R2} (ho : OpR X (compareOp op) r) (ho' : OpR X (compareOp op') r') (ho'' : OpR X (compareOp op'') r'') (ha : PE X a ta) (hb : PE X b tb) (hc : PE X c tc) (hd : PE X d td)
    (hm : lastMarks [op, op', op''] [b, c, d] = false := by with_unfolding_all rfl) : PT X (.Compare a [op, op', op''] [b, c, d] pos) (tTest (tChain3 r r' r'' ta tb tc td)) := by
  refine ⟨fun pins s σ H Q I h => ?_⟩
  refine isTrue_chain (thn (ha.run pins s σ H _ I h) fun v s1 ⟨x, H1, I1, r1, q1⟩ => test_link (thn (hb.run pins s1 σ H1 _ I1 q1) fun u s2 ⟨y, H2, I2, r2, q2⟩ =>
    thn (ho pins s2 σ H2 x y v u _ I2 r1 r2 q2) fun d s3 ⟨z, H3, I3, r3, k, e, q3⟩ => ?_)) hm
  subst e
  cases r3
  refine wpAny_truthy_bool ?_
  cases k with
  | false =>
    obtain ⟨k', e', q'⟩ := q3
    cases e'
    exact ite_ff ⟨H3, I3, q'⟩
  | true =>
    refine ite_tt (test_link (thn (hc.run pins s3 σ H3 _ I3 q3) fun w' s4 ⟨z', H4, I4, r4, q4⟩ => thn (ho' pins s4 σ H4 y z' u w' _ I4 r2 r4 q4) fun d2 s5 ⟨z2, H5, I5, r5, k2, e2, q5⟩ => ?_))
    subst e2
    cases r5
    refine wpAny_truthy_bool ?_
    cases k2 with
    | false =>
      obtain ⟨k', e', q'⟩ := q5
      cases e'
      exact ite_ff ⟨H5, I5, q'⟩
    | true =>
      refine ite_tt (test_last (thn (hd.run pins s5 σ H5 _ I5 q5) fun w2 s6 ⟨z3, H6, I6, r6, q6⟩ => thn (ho'' pins s6 σ H6 z' z3 w' w2 _ I6 r4 r6 q6) fun d' s7 ⟨z4, H7, I7, r7, k4, e4, q7⟩ => ?_))
      subst e4
      cases r7
      exact wpAny_truthy_bool ⟨H7, I7, q7⟩
end
/-- a loop over zip of three lists, the first one longer by one -/
theorem for_zip3 {K : PySem.W.Frag} {a b c : Addr} {xs ys zs : List V} {g : TG} {tb : TS} {D : Ends} {σ : L2.St} {H : Hp} (hl : xs.length = ys.length + 1) (hl2 : zs.length = ys.length) (Pv : Nat → L2.St → Hp → Prop) (h0 : Pv 0 σ H) (hq : ∀ i σ H, Pv i σ H → SqL K H a xs ∧ SqL K H b ys ∧ SqL K H c zs)
    (hs : ∀ (i : Nat) (x y z : V) (T : Addr) (σ : L2.St) (H : Hp), xs[i]? = some x → ys[i]? = some y → zs[i]? = some z → Pv i σ H → H T = none → g (.ref T) σ (upd H T (.tup [x, y, z])) fun σ2 H2 => tb { D with nx := Pv (i + 1), ct := Pv (i + 1), bk := D.nx } σ2 H2) (hd : ∀ σ H, Pv ys.length σ H → D.nx σ H) :
    ∃ W : Nat → Nat → L2.St → Hp → Prop, (∃ m, W 0 m σ H) ∧ ∀ i m σ H, W i m σ H →
      ((Itz3 K a b c).stop i H ∧ D.nx σ H) ∨ ((Itz3 K a b c).go i H ∧ ∃ N : L2.St → Hp → Prop, (∀ σ' H', N σ' H' → ∃ m', m' < m ∧ W (i + 1) m' σ' H') ∧ ∀ v H', (Itz3 K a b c).yld i H v H' → g v σ H' fun σ2 H2 => tb { D with nx := N, ct := N, bk := D.nx } σ2 H2) := by
  refine ⟨fun i m σ H => m = ys.length - i ∧ i ≤ ys.length ∧ Pv i σ H, ⟨ys.length, rfl, Nat.zero_le _, h0⟩, ?_⟩
  rintro i m σ H ⟨rfl, hi, p⟩
  obtain ⟨qx, qy, qz⟩ := hq i σ H p
  by_cases hlt : i < ys.length
  · have hx : xs[i]? = some (xs[i]'(by omega)) := List.getElem?_eq_getElem (by omega)
    have hy : ys[i]? = some ys[i] := List.getElem?_eq_getElem hlt
    have hz : zs[i]? = some (zs[i]'(by omega)) := List.getElem?_eq_getElem (by omega)
    refine .inr ⟨⟨xs, ys, zs, _, _, _, qx, qy, qz, hx, hy, hz⟩, Pv (i + 1), fun σ' H' p' => ⟨ys.length - (i + 1), by omega, rfl, hlt, p'⟩, fun v H' y => ?_⟩
    obtain ⟨T, x, z, u, rfl, nT, rfl, fx, fy, fz⟩ := y
    exact hs i x z u T σ H (fx xs qx) (fy ys qy) (fz zs qz) p nT
  · have e : i = ys.length := by omega
    subst e
    exact .inl ⟨⟨xs, ys, qx, qy, by omega, Nat.le_refl _⟩, hd σ H p⟩
/-! ### several clauses, each with a name -/
def wAsN (K : PySem.W.Frag) (Wout : WX) (D : Ends) : List (Value × Nat × (Addr → Value → Option Addr → TS)) → WX
  | [] => Wout
  | (c, i, ts) :: r => fun cls d σ H =>
    ∃ b, PySem.W.exmOne K cls c = some b ∧ (b = true → ∀ a, H a = none → ts a cls d { nx := fun σ' H' => D.nx (σ'.set i none) H', rt := D.rt, bk := fun σ' H' => D.bk (σ'.set i none) H', ct := fun σ' H' => D.ct (σ'.set i none) H' } (σ.set i (some (.ref a))) H) ∧
      (b = false → wAsN K Wout D r cls d σ H)
inductive HdsAs (X : Cx) : List ExceptHandler → List (Value × Nat × (Addr → Value → Option Addr → TS)) → Prop
  | nil : HdsAs X [] []
  | cons {x n : Str} {c : Value} {i : Nat} {ts : Addr → Value → Option Addr → TS} {b₀ : Stmt} {suite : List Stmt} {np pos' : Pos} {hds : List ExceptHandler} {l : List (Value × Nat × (Addr → Value → Option Addr → TS))} (hi : X.N[i]? = some n) (hln : X.env.kindOf n = some .local) (hc : Names X x c)
      (hsu : ∀ (a : Addr) (oe : Obj) (cls : Value) (d : Option Addr) (pn : List (Addr × Obj)), Zc cls d oe → (∃ vs, oe.data = .fields vs) → PSs (X.suite a ((a, oe) :: pn)) (b₀ :: suite) (ts a cls d)) (r : HdsAs X hds l) :
      HdsAs X (.ExceptHandler (some (.Name x np)) (some n) (b₀ :: suite) pos' :: hds) ((c, i, ts) :: l)
section
variable {X : Cx} {body : List Stmt} {h₀ : ExceptHandler} {hds : List ExceptHandler} {l : List (Value × Nat × (Addr → Value → Option Addr → TS))} {pos : Pos} {tb : WX → TS} {Wout : WX}
theorem ps_try_asN (hs : X.stack = X.env :: X.outer) (hf : X.env.frame = some X.env.locals) (hN : X.N.Nodup) (tk : Takes X Wout)
    (hb : ∀ (W : WX) (pn : List (Addr × Obj)) (xe : Value → Shared → Prop), Takes (X.tr pn xe) W → PassesOwn (model X.prog X.w) X.A X.env xe → PSs (X.tr pn xe) body (tb W))
    (hh : HdsAs X (h₀ :: hds) l) : PS X (.Try body (h₀ :: hds) [] [] pos) (fun D σ H => tb (wAsN X.K Wout D l) D σ H) := by
  refine ⟨fun pins s σ H D I h => ?_⟩
  have ok := I.ok
  have hfr : X.A.frames = some (X.env :: X.outer) := by rw [ok.frames, hs]
  refine wpAny_Try_except ?_
  refine wpAny_mono ((hb (wAsN X.K Wout D l) (X.pn ++ pins) (fun e s₁ => wpAny (model X.prog X.w) X.A (noteFrame e X.env) (fun _ s₂ => wpAny (model X.prog X.w) X.A (setFlight e none) (fun _ s₃ =>
    wpAny (model X.prog X.w) X.A (handleBy e X.env (h₀ :: hds)) (SP X pins D) X.xe s₃) X.xe s₂) X.xe s₁) (fun u s' xx => ?_) PassesOwn.looking).run [] s σ H D (I.toTry _) h) (fun f s1 hsp => ?_) (fun e s1 he => he)
  · obtain ⟨a, B, sI, pins', σ', H', cls, d, rfl, J', nb, up, sky, na, os, ag, w⟩ := xx
    have J : Inv X pins σ' H' sI := J'.ofTry ok
    have sky' : Sky B (X.env :: X.outer) a (Zc cls d) X.env.locals s'.heap := by rw [← hs]; exact sky
    show wpAny (model X.prog X.w) X.A (noteFrame (.ref a) X.env) _ _ _
    refine Sky.land Zc.steady hfr hf sky' fun h3 fl3 up3 => ?_
    have J3 : Inv X pins σ' H' { s' with heap := h3 } := J.landed nb fl3.1 (up.trans up3) os ag
    obtain ⟨oe3, vs3, he3, hz3, hd3⟩ := fl3.there
    have notFr : ∀ {h : Heap} {o : Obj} {vs : Array Value}, h.FunFrames B (X.env :: X.outer) → h.get? a = some o → o.data = .fields vs → a ∉ frs (X.env :: X.outer) := fun {h o vs} ff e dd hm => by
      obtain ⟨_, o', e', hnf⟩ := ff.mem hm
      rw [e] at e'
      cases e'
      exact hnf _ dd
    have nfr := notFr fl3.2.2.1 he3 hd3
    have nL : a ≠ X.env.locals := fun z => nfr (List.mem_filterMap.mpr ⟨X.env, List.mem_cons_self, by rw [hf, z]⟩)
    have nF : a ∉ X.fs := fun hm => by
      obtain ⟨e, he, q⟩ := List.mem_filterMap.mp hm
      exact nfr (List.mem_filterMap.mpr ⟨e, List.mem_cons_of_mem _ he, q⟩)
    have S3 := J3.suite he3 hd3 na nL nF
    have go : ∀ {hds' : List ExceptHandler} {l' : List (Value × Nat × (Addr → Value → Option Addr → TS))}, HdsAs X hds' l' → wAsN X.K Wout D l' cls d σ' H' →
        wpAny (model X.prog X.w) X.A (handleBy (.ref a) X.env hds') (SP X pins D) X.xe { s' with heap := h3 } := by
      intro hds' l' hk
      induction hk with
      | nil =>
        intro w
        refine wpAny_handleBy_nil ?_
        obtain ⟨k1, k2, k3, oe, vs, T, oT, ts', he, hz, hd, h1, hr⟩ := id fl3
        unfold PySem.passOn
        refine wpAny_bind (wpAny_field he hd h1 ?_)
        rw [if_neg (show ¬ ((Value.ref T == Value.none) = true) from by simp)]
        have fin : wpAny (model X.prog X.w) X.A (setFlight (.ref a) X.env.frame) (fun _ s4 => wpAny (model X.prog X.w) X.A (throw (.ref a) : Sem Flow) (SP X pins D) X.xe s4) X.xe { s' with heap := h3 } := by
          rw [hf]
          refine HandSPX.setFlight_upZ fl3 fun h4 hh4 up4 => wpAny_throw (tk _ _ ?_)
          exact ⟨a, B, sI, pins, σ', H', cls, d, rfl, J, nb, (up.trans up3).trans up4, .inr (.inr (by rw [hs]; exact hh4)), na, os, ag, w⟩
        first
          | exact wpAny_bind (wpAny_pure (wpAny_bind fin))
          | exact wpAny_bind fin
      | @cons x n c i ts b₀ suite np pos' hds2 l2 hi hln hc hsu r ih =>
        intro w
        obtain ⟨b, hb1, hyes, hno⟩ := w
        refine wpAny_handleBy_cons (codeAny_handlers_test ?_) (by intro q; cases q)
        have LT : PySem.W.Looks (model X.prog X.w) h3 (typeOf (.ref a)) cls := fun A Q E s k q => wpAny_typeOf_ref (k _ _ he3) (by rw [hz3.1]; exact q)
        have LM := PySem.W.exm_one (M := model X.prog X.w) (J3.kIn) LT hb1
        have test : ∀ {Q : Value → Shared → Prop} {E : Value → Shared → Prop}, Q c { s' with heap := h3 } → wpAny (model X.prog X.w) (X.A.mark (some (.ref a))) (eval (.Name x np) X.env) Q E { s' with heap := h3 } := fun {Q E} q => by
          obtain ⟨hg, hdbg, hm | ⟨hm, hv, hnn⟩⟩ := hc
          · exact ld_glob (X := X.suite a ((a, oe3) :: (X.pn ++ pins))) S3 hg hm q hdbg
          · exact ld_blt (X := X.suite a ((a, oe3) :: (X.pn ++ pins))) S3 hg hm hv q hnn hdbg
        refine test (LM.here ?_)
        cases b with
        | true =>
          refine codeAny_handlers_suite_as ?_
          refine HandSPX.lands_againZ fl3 fun h4 fl4 up4 => ?_
          have J4 : Inv X pins σ' H' { s' with heap := h4 } := J.landed nb fl4.1 ((up.trans up3).trans up4) os ag
          obtain ⟨oe4, vs4, he4, hz4, hd4⟩ := fl4.there
          have S4 := J4.suite he4 hd4 na nL nF
          refine store_ok (X := X.suite a ((a, oe4) :: (X.pn ++ pins))) (v := .ref a) S4 hN hi (.inl hln) rfl (fun s5 S5 => ?_) (.inr hln)
          refine wpAny_mono ((hsu a oe4 cls d (X.pn ++ pins) hz4 ⟨_, hd4⟩).run [] s5 _ H' _ S5 (hyes rfl a na)) (fun f s6 hsp => ?_) (fun _ _ z => False.elim z)
          have end_ : ∀ {σ6 : L2.St} {H6 : Hp} {Q : Shared → Prop}, Inv (X.suite a ((a, oe4) :: (X.pn ++ pins))) [] σ6 H6 s6 → (∀ s7, Inv X pins (σ6.set i none) H6 s7 → Q s7) →
              wpAny (model X.prog X.w) X.A (do bindName X.env n .none; unbindBehindTheSuite X.env n pos') (fun _ s7 => Q s7) X.xe s6 := fun {σ6 H6 Q} S6 hq => gone_ok (S6.unsuite ok) hN hi hln hq
          cases f with
          | next =>
            obtain ⟨σ6, H6, S6, q6⟩ := hsp
            exact end_ S6 fun s7 J7 => ⟨_, _, J7, q6⟩
          | brk =>
            obtain ⟨σ6, H6, S6, q6⟩ := hsp
            exact end_ S6 fun s7 J7 => ⟨_, _, J7, q6⟩
          | cont =>
            obtain ⟨σ6, H6, S6, q6⟩ := hsp
            exact end_ S6 fun s7 J7 => ⟨_, _, J7, q6⟩
          | ret u =>
            obtain ⟨v6, σ6, H6, S6, r6, q6⟩ := hsp
            exact end_ S6 fun s7 J7 => ⟨_, _, _, J7, r6, q6⟩
        | false =>
          show wpAny _ X.A (handleBy (.ref a) X.env hds2) _ _ _
          exact ih (hno rfl)
    exact go hh w
  · cases f with
    | next =>
      obtain ⟨σ', H', J', q⟩ := hsp
      exact wpAny_execs_nil ⟨σ', H', J'.ofTry ok, q⟩
    | brk =>
      obtain ⟨σ', H', J', q⟩ := hsp
      exact ⟨σ', H', J'.ofTry ok, q⟩
    | cont =>
      obtain ⟨σ', H', J', q⟩ := hsp
      exact ⟨σ', H', J'.ofTry ok, q⟩
    | ret u =>
      obtain ⟨v, σ', H', J', r, q⟩ := hsp
      exact ⟨v, σ', H', J'.ofTry ok, r, q⟩
end
end My
set_option Elab.async false
set_option linter.all false
set_option maxRecDepth 100000
set_option maxHeartbeats 4000000
namespace K35
open PySem L2 My
def topS (i : Nat) : Stmt := PySem.Challenge.pw_listwindow_k35_effects_on_all_scrolls.main.body.getD i (.Pass ⟨0, 0, 0, 0⟩)
abbrev PR : Program := PySem.Challenge.pw_listwindow_k35_effects_on_all_scrolls
abbrev s_init : Stmt := inClass (topS 1) 0
abbrev s_need_from : Stmt := topS 5
theorem sc_need_from : FnScope ["number", "least"] ["number", "least"] (defScope s_need_from) := ⟨rfl, rfl, rfl, by decide +kernel, rfl, by decide +kernel, by decide +kernel⟩
abbrev s_need_rooms : Stmt := topS 6
theorem sc_need_rooms : FnScope ["rooms", "size"] ["rooms"] (defScope s_need_rooms) := ⟨rfl, rfl, rfl, by decide +kernel, rfl, by decide +kernel, by decide +kernel⟩
abbrev s_need_effect : Stmt := topS 7
theorem sc_need_effect : FnScope ["size", "effect"] ["size", "effect"] (defScope s_need_effect) := ⟨rfl, rfl, rfl, by decide +kernel, rfl, by decide +kernel, by decide +kernel⟩
abbrev s_check_effect : Stmt := topS 8
theorem sc_check_effect : FnScope ["size", "effect", "shift", "low", "high"] ["size", "effect"] (defScope s_check_effect) := ⟨rfl, rfl, rfl, by decide +kernel, rfl, by decide +kernel, by decide +kernel⟩
abbrev s_between : Stmt := topS 9
theorem sc_between : FnScope ["number", "least", "greatest"] ["number", "least", "greatest"] (defScope s_between) := ⟨rfl, rfl, rfl, by decide +kernel, rfl, by decide +kernel, by decide +kernel⟩
abbrev s_effect_from : Stmt := topS 10
theorem sc_effect_from : FnScope ["shift", "low", "high"] ["shift", "low", "high"] (defScope s_effect_from) := ⟨rfl, rfl, rfl, by decide +kernel, rfl, by decide +kernel, by decide +kernel⟩
abbrev s_effect_in : Stmt := topS 11
theorem sc_effect_in : FnScope ["size", "turns", "low", "high", "turn"] ["size", "turns"] (defScope s_effect_in) := ⟨rfl, rfl, rfl, by decide +kernel, rfl, by decide +kernel, by decide +kernel⟩
abbrev s_effect_on : Stmt := topS 12
theorem sc_effect_on : FnScope ["size", "turns"] ["size", "turns"] (defScope s_effect_on) := ⟨rfl, rfl, rfl, by decide +kernel, rfl, by decide +kernel, by decide +kernel⟩
abbrev s_joined_effect : Stmt := topS 13
theorem sc_joined_effect : FnScope ["size", "one", "other", "shift", "least", "greatest", "low", "high"] ["size", "one", "other"] (defScope s_joined_effect) := ⟨rfl, rfl, rfl, by decide +kernel, rfl, by decide +kernel, by decide +kernel⟩
abbrev s_repeated_effect : Stmt := topS 14
theorem sc_repeated_effect : FnScope ["size", "effect", "times", "shift", "low", "high", "first", "last"] ["size", "effect", "times"] (defScope s_repeated_effect) := ⟨rfl, rfl, rfl, by decide +kernel, rfl, by decide +kernel, by decide +kernel⟩
abbrev s_effect_through : Stmt := topS 15
theorem sc_effect_through : FnScope ["sizes", "turns", "low", "high", "size", "later", "turn"] ["sizes", "turns"] (defScope s_effect_through) := ⟨rfl, rfl, rfl, by decide +kernel, rfl, by decide +kernel, by decide +kernel⟩
abbrev s__law_jug : Stmt := topS 17
theorem sc__law_jug : FnScope ["_law_script", "_law_k", "_law_cell"] ["_law_script", "_law_k"] (defScope s__law_jug) := ⟨rfl, rfl, rfl, by decide +kernel, rfl, by decide +kernel, by decide +kernel⟩
abbrev s__law_pour : Stmt := topS 18
theorem sc__law_pour : FnScope ["_law_jug_here", "_law_many", "_law_found", "_law_mixed"] ["_law_jug_here", "_law_many"] (defScope s__law_pour) := ⟨rfl, rfl, rfl, by decide +kernel, rfl, by decide +kernel, by decide +kernel⟩
abbrev s__law_turns : Stmt := topS 19
theorem sc__law_turns : FnScope ["_law_jug_here", "_law_most", "_law_size", "_law_many", "_law_turn"] ["_law_jug_here", "_law_most", "_law_size"] (defScope s__law_turns) := ⟨rfl, rfl, rfl, by decide +kernel, rfl, by decide +kernel, by decide +kernel⟩
abbrev s__law_led : Stmt := topS 20
theorem sc__law_led : FnScope ["_law_sizes", "_law_turns_here", "_law_scroll", "_law_spot", "_law_turn"] ["_law_sizes", "_law_turns_here", "_law_scroll"] (defScope s__law_led) := ⟨rfl, rfl, rfl, by decide +kernel, rfl, by decide +kernel, by decide +kernel⟩
abbrev s__law_is_effect : Stmt := topS 21
theorem sc__law_is_effect : FnScope ["_law_told", "_law_sizes", "_law_turns_here", "_law_shift", "_law_low", "_law_high", "_law_ends", "_law_scroll"] ["_law_told", "_law_sizes", "_law_turns_here"] (defScope s__law_is_effect) := ⟨rfl, rfl, rfl, by decide +kernel, rfl, by decide +kernel, by decide +kernel⟩
abbrev s__law_times : Stmt := topS 22
theorem sc__law_times : FnScope ["_law_effect", "_law_width", "_law_number"] ["_law_effect", "_law_width"] (defScope s__law_times) := ⟨rfl, rfl, rfl, by decide +kernel, rfl, by decide +kernel, by decide +kernel⟩
abbrev s__law_single_right : Stmt := topS 23
theorem sc__law_single_right : FnScope ["_law_size", "_law_one", "_law_other", "_law_width", "_law_first", "_law_second", "_law_both", "_law_turn"] ["_law_size", "_law_one", "_law_other", "_law_width"] (defScope s__law_single_right) := ⟨rfl, rfl, rfl, by decide +kernel, rfl, by decide +kernel, by decide +kernel⟩
abbrev s__law_repeated_right : Stmt := topS 24
theorem sc__law_repeated_right : FnScope ["_law_size", "_law_effect", "_law_turns_here", "_law_times_here", "_law_many", "_law_found", "_law_power", "_law_left"] ["_law_size", "_law_effect", "_law_turns_here", "_law_times_here"] (defScope s__law_repeated_right) := ⟨rfl, rfl, rfl, by decide +kernel, rfl, by decide +kernel, by decide +kernel⟩
abbrev s__law_great_right : Stmt := topS 25
theorem sc__law_great_right : FnScope ["_law_jug_here", "_law_size", "_law_effect", "_law_width", "_law_times_here", "_law_due", "_law_far", "_law_by", "_law_many", "_law_turns_here", "_law_more", "_law_both", "_law_sizes", "_law_turn"] ["_law_jug_here", "_law_size", "_law_effect", "_law_width", "_law_times_here"] (defScope s__law_great_right) := ⟨rfl, rfl, rfl, by decide +kernel, rfl, by decide +kernel, by decide +kernel⟩
abbrev s__law_ends_right : Stmt := topS 26
theorem sc__law_ends_right : FnScope ["_law_jug_here", "_law_told", "_law_sizes", "_law_turns_here", "_law_shift", "_law_low", "_law_high", "_law_scroll", "_law_turn"] ["_law_jug_here", "_law_told", "_law_sizes", "_law_turns_here"] (defScope s__law_ends_right) := ⟨rfl, rfl, rfl, by decide +kernel, rfl, by decide +kernel, by decide +kernel⟩
abbrev s__law_through_right : Stmt := topS 27
theorem sc__law_through_right : FnScope ["_law_jug_here", "_law_width", "_law_turns_here", "_law_sizes", "_law_told", "_law_great", "_law_same", "_law_turn", "_law_size"] ["_law_jug_here", "_law_width"] (defScope s__law_through_right) := ⟨rfl, rfl, rfl, by decide +kernel, rfl, by decide +kernel, by decide +kernel⟩
abbrev s__law_any : Stmt := topS 28
theorem sc__law_any : FnScope ["_law_jug_here", "_law_size", "_law_low", "_law_high", "_law_shift", "_law_is_one"] ["_law_jug_here", "_law_size"] (defScope s__law_any) := ⟨rfl, rfl, rfl, by decide +kernel, rfl, by decide +kernel, by decide +kernel⟩
abbrev s__law_refused : Stmt := topS 29
theorem sc__law_refused : FnScope ["_law_word", "_law_size", "_law_one", "_law_other", "_law_times_here", "e"] ["_law_word", "_law_size", "_law_one", "_law_other", "_law_times_here"] (defScope s__law_refused) := ⟨rfl, rfl, rfl, by decide +kernel, rfl, by decide +kernel, by decide +kernel⟩
abbrev s__law_errors_right : Stmt := topS 30
theorem sc__law_errors_right : FnScope ["_law_jug_here", "_law_size", "_law_word", "_law_one", "_law_other", "_law_times_here", "_law_odd", "_law_found"] ["_law_jug_here", "_law_size"] (defScope s__law_errors_right) := ⟨rfl, rfl, rfl, by decide +kernel, rfl, by decide +kernel, by decide +kernel⟩
abbrev s_law : Stmt := topS 31
theorem sc_law : FnScope ["_law_script", "_law_k", "_law_jug_here", "_law_width", "_law_size", "_law_one", "_law_other", "_law_times_here"] ["_law_script"] (defScope s_law) := ⟨rfl, rfl, rfl, by decide +kernel, rfl, by decide +kernel, by decide +kernel⟩
structure Txt (K : PySem.W.Frag) (mg : Str → Option Value) where
  a_need_from : Addr
  d_need_from : FuncData
  f_need_from : Fun K "need_from" "need_from" s_need_from a_need_from d_need_from
  g_need_from : mg "need_from" = some (.ref a_need_from)
  a_need_rooms : Addr
  d_need_rooms : FuncData
  f_need_rooms : Fun K "need_rooms" "need_rooms" s_need_rooms a_need_rooms d_need_rooms
  g_need_rooms : mg "need_rooms" = some (.ref a_need_rooms)
  a_need_effect : Addr
  d_need_effect : FuncData
  f_need_effect : Fun K "need_effect" "need_effect" s_need_effect a_need_effect d_need_effect
  g_need_effect : mg "need_effect" = some (.ref a_need_effect)
  a_check_effect : Addr
  d_check_effect : FuncData
  f_check_effect : Fun K "check_effect" "check_effect" s_check_effect a_check_effect d_check_effect
  g_check_effect : mg "check_effect" = some (.ref a_check_effect)
  a_between : Addr
  d_between : FuncData
  f_between : Fun K "between" "between" s_between a_between d_between
  g_between : mg "between" = some (.ref a_between)
  a_effect_from : Addr
  d_effect_from : FuncData
  f_effect_from : Fun K "effect_from" "effect_from" s_effect_from a_effect_from d_effect_from
  g_effect_from : mg "effect_from" = some (.ref a_effect_from)
  a_effect_in : Addr
  d_effect_in : FuncData
  f_effect_in : Fun K "effect_in" "effect_in" s_effect_in a_effect_in d_effect_in
  g_effect_in : mg "effect_in" = some (.ref a_effect_in)
  a_effect_on : Addr
  d_effect_on : FuncData
  f_effect_on : Fun K "effect_on" "effect_on" s_effect_on a_effect_on d_effect_on
  g_effect_on : mg "effect_on" = some (.ref a_effect_on)
  a_joined_effect : Addr
  d_joined_effect : FuncData
  f_joined_effect : Fun K "joined_effect" "joined_effect" s_joined_effect a_joined_effect d_joined_effect
  g_joined_effect : mg "joined_effect" = some (.ref a_joined_effect)
  a_repeated_effect : Addr
  d_repeated_effect : FuncData
  f_repeated_effect : Fun K "repeated_effect" "repeated_effect" s_repeated_effect a_repeated_effect d_repeated_effect
  g_repeated_effect : mg "repeated_effect" = some (.ref a_repeated_effect)
  a_effect_through : Addr
  d_effect_through : FuncData
  f_effect_through : Fun K "effect_through" "effect_through" s_effect_through a_effect_through d_effect_through
  g_effect_through : mg "effect_through" = some (.ref a_effect_through)
  a__law_jug : Addr
  d__law_jug : FuncData
  f__law_jug : Fun K "_law_jug" "_law_jug" s__law_jug a__law_jug d__law_jug
  g__law_jug : mg "_law_jug" = some (.ref a__law_jug)
  a__law_pour : Addr
  d__law_pour : FuncData
  f__law_pour : Fun K "_law_pour" "_law_pour" s__law_pour a__law_pour d__law_pour
  g__law_pour : mg "_law_pour" = some (.ref a__law_pour)
  a__law_turns : Addr
  d__law_turns : FuncData
  f__law_turns : Fun K "_law_turns" "_law_turns" s__law_turns a__law_turns d__law_turns
  g__law_turns : mg "_law_turns" = some (.ref a__law_turns)
  a__law_led : Addr
  d__law_led : FuncData
  f__law_led : Fun K "_law_led" "_law_led" s__law_led a__law_led d__law_led
  g__law_led : mg "_law_led" = some (.ref a__law_led)
  a__law_is_effect : Addr
  d__law_is_effect : FuncData
  f__law_is_effect : Fun K "_law_is_effect" "_law_is_effect" s__law_is_effect a__law_is_effect d__law_is_effect
  g__law_is_effect : mg "_law_is_effect" = some (.ref a__law_is_effect)
  a__law_times : Addr
  d__law_times : FuncData
  f__law_times : Fun K "_law_times" "_law_times" s__law_times a__law_times d__law_times
  g__law_times : mg "_law_times" = some (.ref a__law_times)
  a__law_single_right : Addr
  d__law_single_right : FuncData
  f__law_single_right : Fun K "_law_single_right" "_law_single_right" s__law_single_right a__law_single_right d__law_single_right
  g__law_single_right : mg "_law_single_right" = some (.ref a__law_single_right)
  a__law_repeated_right : Addr
  d__law_repeated_right : FuncData
  f__law_repeated_right : Fun K "_law_repeated_right" "_law_repeated_right" s__law_repeated_right a__law_repeated_right d__law_repeated_right
  g__law_repeated_right : mg "_law_repeated_right" = some (.ref a__law_repeated_right)
  a__law_great_right : Addr
  d__law_great_right : FuncData
  f__law_great_right : Fun K "_law_great_right" "_law_great_right" s__law_great_right a__law_great_right d__law_great_right
  g__law_great_right : mg "_law_great_right" = some (.ref a__law_great_right)
  a__law_ends_right : Addr
  d__law_ends_right : FuncData
  f__law_ends_right : Fun K "_law_ends_right" "_law_ends_right" s__law_ends_right a__law_ends_right d__law_ends_right
  g__law_ends_right : mg "_law_ends_right" = some (.ref a__law_ends_right)
  a__law_through_right : Addr
  d__law_through_right : FuncData
  f__law_through_right : Fun K "_law_through_right" "_law_through_right" s__law_through_right a__law_through_right d__law_through_right
  g__law_through_right : mg "_law_through_right" = some (.ref a__law_through_right)
  a__law_any : Addr
  d__law_any : FuncData
  f__law_any : Fun K "_law_any" "_law_any" s__law_any a__law_any d__law_any
  g__law_any : mg "_law_any" = some (.ref a__law_any)
  a__law_refused : Addr
  d__law_refused : FuncData
  f__law_refused : Fun K "_law_refused" "_law_refused" s__law_refused a__law_refused d__law_refused
  g__law_refused : mg "_law_refused" = some (.ref a__law_refused)
  a__law_errors_right : Addr
  d__law_errors_right : FuncData
  f__law_errors_right : Fun K "_law_errors_right" "_law_errors_right" s__law_errors_right a__law_errors_right d__law_errors_right
  g__law_errors_right : mg "_law_errors_right" = some (.ref a__law_errors_right)
  a_law : Addr
  d_law : FuncData
  f_law : Fun K "law" "law" s_law a_law d_law
  g_law : mg "law" = some (.ref a_law)
  fI : Addr
  cI : Addr
  cdI : Addr
  dD : Addr
  dI : FuncData
  iT : InitT PR K mg s_init "WindowError.__init__" fI cI cdI dD dI
  c_WindowError : Addr
  e_WindowError : ErrC K fI dD c_WindowError
  g_WindowError : mg "WindowError" = some (.ref c_WindowError)
  c_InvalidNumber : Addr
  e_InvalidNumber : ErrC K fI dD c_InvalidNumber
  g_InvalidNumber : mg "InvalidNumber" = some (.ref c_InvalidNumber)
  c_InvalidValue : Addr
  e_InvalidValue : ErrC K fI dD c_InvalidValue
  g_InvalidValue : mg "InvalidValue" = some (.ref c_InvalidValue)
  x_InvalidNumber_InvalidNumber : PySem.W.exmOne K (.ref c_InvalidNumber) (.ref c_InvalidNumber) = some true
  x_InvalidValue_InvalidNumber : PySem.W.exmOne K (.ref c_InvalidValue) (.ref c_InvalidNumber) = some false
  x_InvalidValue_InvalidValue : PySem.W.exmOne K (.ref c_InvalidValue) (.ref c_InvalidValue) = some true
  z_max : mg "max" = none
  z_min : mg "min" = none
  z_sum : mg "sum" = none
  z_zip : mg "zip" = none
  z_len : mg "len" = none
  z_int : mg "int" = none
  z_range : mg "range" = none
  z_enumerate : mg "enumerate" = none
  z_isinstance : mg "isinstance" = none
  z_tuple : mg "tuple" = none
theorem ok_init {w : World} {K : PySem.W.Frag} {mg : Str → Option Value} {base : Heap} (T : Txt K mg) : FnOk PR w K mg base CX0 1 T.fI T.dI ["self", "value"] (spErr K T.fI T.dD) := ok_err T.iT (NdefX.nscope_by (by decide +kernel)) rfl rfl rfl (fun env => rfl)
theorem b_init {K : PySem.W.Frag} {mg : Str → Option Value} (T : Txt K mg) : Binds K T.dI ["self", "value"] [] := by
  obtain ⟨oc, od, kV, doc, pm, an, ct, osl, e, lk⟩ := T.iT.ex
  rw [e]
  exact .all fun us hl => match us, hl with | [_, _], _ => rfl
theorem b_need_from {K : PySem.W.Frag} {mg : Str → Option Value} (T : Txt K mg) : Binds K T.d_need_from ["number", "least"] [] := T.f_need_from.binds (ps := ["number", "least"]) fun _ _ _ _ _ _ us hl => match us, hl with | [_, _], _ => rfl
theorem b_need_rooms {K : PySem.W.Frag} {mg : Str → Option Value} (T : Txt K mg) : Binds K T.d_need_rooms ["rooms"] [] := T.f_need_rooms.binds (ps := ["rooms"]) fun _ _ _ _ _ _ us hl => match us, hl with | [_], _ => rfl
theorem b_need_effect {K : PySem.W.Frag} {mg : Str → Option Value} (T : Txt K mg) : Binds K T.d_need_effect ["size", "effect"] [] := T.f_need_effect.binds (ps := ["size", "effect"]) fun _ _ _ _ _ _ us hl => match us, hl with | [_, _], _ => rfl
theorem b_check_effect {K : PySem.W.Frag} {mg : Str → Option Value} (T : Txt K mg) : Binds K T.d_check_effect ["size", "effect"] [] := T.f_check_effect.binds (ps := ["size", "effect"]) fun _ _ _ _ _ _ us hl => match us, hl with | [_, _], _ => rfl
theorem b_between {K : PySem.W.Frag} {mg : Str → Option Value} (T : Txt K mg) : Binds K T.d_between ["number", "least", "greatest"] [] := T.f_between.binds (ps := ["number", "least", "greatest"]) fun _ _ _ _ _ _ us hl => match us, hl with | [_, _, _], _ => rfl
theorem b_effect_from {K : PySem.W.Frag} {mg : Str → Option Value} (T : Txt K mg) : Binds K T.d_effect_from ["shift", "low", "high"] [] := T.f_effect_from.binds (ps := ["shift", "low", "high"]) fun _ _ _ _ _ _ us hl => match us, hl with | [_, _, _], _ => rfl
theorem b_effect_in {K : PySem.W.Frag} {mg : Str → Option Value} (T : Txt K mg) : Binds K T.d_effect_in ["size", "turns"] [] := T.f_effect_in.binds (ps := ["size", "turns"]) fun _ _ _ _ _ _ us hl => match us, hl with | [_, _], _ => rfl
theorem b_effect_on {K : PySem.W.Frag} {mg : Str → Option Value} (T : Txt K mg) : Binds K T.d_effect_on ["size", "turns"] [] := T.f_effect_on.binds (ps := ["size", "turns"]) fun _ _ _ _ _ _ us hl => match us, hl with | [_, _], _ => rfl
theorem b_joined_effect {K : PySem.W.Frag} {mg : Str → Option Value} (T : Txt K mg) : Binds K T.d_joined_effect ["size", "one", "other"] [] := T.f_joined_effect.binds (ps := ["size", "one", "other"]) fun _ _ _ _ _ _ us hl => match us, hl with | [_, _, _], _ => rfl
theorem b_repeated_effect {K : PySem.W.Frag} {mg : Str → Option Value} (T : Txt K mg) : Binds K T.d_repeated_effect ["size", "effect", "times"] [] := T.f_repeated_effect.binds (ps := ["size", "effect", "times"]) fun _ _ _ _ _ _ us hl => match us, hl with | [_, _, _], _ => rfl
theorem b_effect_through {K : PySem.W.Frag} {mg : Str → Option Value} (T : Txt K mg) : Binds K T.d_effect_through ["sizes", "turns"] [] := T.f_effect_through.binds (ps := ["sizes", "turns"]) fun _ _ _ _ _ _ us hl => match us, hl with | [_, _], _ => rfl
theorem b__law_jug {K : PySem.W.Frag} {mg : Str → Option Value} (T : Txt K mg) : Binds K T.d__law_jug ["_law_script", "_law_k"] [] := T.f__law_jug.binds (ps := ["_law_script", "_law_k"]) fun _ _ _ _ _ _ us hl => match us, hl with | [_, _], _ => rfl
theorem b__law_pour {K : PySem.W.Frag} {mg : Str → Option Value} (T : Txt K mg) : Binds K T.d__law_pour ["_law_jug_here", "_law_many"] [] := T.f__law_pour.binds (ps := ["_law_jug_here", "_law_many"]) fun _ _ _ _ _ _ us hl => match us, hl with | [_, _], _ => rfl
theorem b__law_turns {K : PySem.W.Frag} {mg : Str → Option Value} (T : Txt K mg) : Binds K T.d__law_turns ["_law_jug_here", "_law_most", "_law_size"] [] := T.f__law_turns.binds (ps := ["_law_jug_here", "_law_most", "_law_size"]) fun _ _ _ _ _ _ us hl => match us, hl with | [_, _, _], _ => rfl
theorem b__law_led {K : PySem.W.Frag} {mg : Str → Option Value} (T : Txt K mg) : Binds K T.d__law_led ["_law_sizes", "_law_turns_here", "_law_scroll"] [] := T.f__law_led.binds (ps := ["_law_sizes", "_law_turns_here", "_law_scroll"]) fun _ _ _ _ _ _ us hl => match us, hl with | [_, _, _], _ => rfl
theorem b__law_is_effect {K : PySem.W.Frag} {mg : Str → Option Value} (T : Txt K mg) : Binds K T.d__law_is_effect ["_law_told", "_law_sizes", "_law_turns_here"] [] := T.f__law_is_effect.binds (ps := ["_law_told", "_law_sizes", "_law_turns_here"]) fun _ _ _ _ _ _ us hl => match us, hl with | [_, _, _], _ => rfl
theorem b__law_times {K : PySem.W.Frag} {mg : Str → Option Value} (T : Txt K mg) : Binds K T.d__law_times ["_law_effect", "_law_width"] [] := T.f__law_times.binds (ps := ["_law_effect", "_law_width"]) fun _ _ _ _ _ _ us hl => match us, hl with | [_, _], _ => rfl
theorem b__law_single_right {K : PySem.W.Frag} {mg : Str → Option Value} (T : Txt K mg) : Binds K T.d__law_single_right ["_law_size", "_law_one", "_law_other", "_law_width"] [] := T.f__law_single_right.binds (ps := ["_law_size", "_law_one", "_law_other", "_law_width"]) fun _ _ _ _ _ _ us hl => match us, hl with | [_, _, _, _], _ => rfl
theorem b__law_repeated_right {K : PySem.W.Frag} {mg : Str → Option Value} (T : Txt K mg) : Binds K T.d__law_repeated_right ["_law_size", "_law_effect", "_law_turns_here", "_law_times_here"] [] := T.f__law_repeated_right.binds (ps := ["_law_size", "_law_effect", "_law_turns_here", "_law_times_here"]) fun _ _ _ _ _ _ us hl => match us, hl with | [_, _, _, _], _ => rfl
theorem b__law_great_right {K : PySem.W.Frag} {mg : Str → Option Value} (T : Txt K mg) : Binds K T.d__law_great_right ["_law_jug_here", "_law_size", "_law_effect", "_law_width", "_law_times_here"] [] := T.f__law_great_right.binds (ps := ["_law_jug_here", "_law_size", "_law_effect", "_law_width", "_law_times_here"]) fun _ _ _ _ _ _ us hl => match us, hl with | [_, _, _, _, _], _ => rfl
theorem b__law_ends_right {K : PySem.W.Frag} {mg : Str → Option Value} (T : Txt K mg) : Binds K T.d__law_ends_right ["_law_jug_here", "_law_told", "_law_sizes", "_law_turns_here"] [] := T.f__law_ends_right.binds (ps := ["_law_jug_here", "_law_told", "_law_sizes", "_law_turns_here"]) fun _ _ _ _ _ _ us hl => match us, hl with | [_, _, _, _], _ => rfl
theorem b__law_through_right {K : PySem.W.Frag} {mg : Str → Option Value} (T : Txt K mg) : Binds K T.d__law_through_right ["_law_jug_here", "_law_width"] [] := T.f__law_through_right.binds (ps := ["_law_jug_here", "_law_width"]) fun _ _ _ _ _ _ us hl => match us, hl with | [_, _], _ => rfl
theorem b__law_any {K : PySem.W.Frag} {mg : Str → Option Value} (T : Txt K mg) : Binds K T.d__law_any ["_law_jug_here", "_law_size"] [] := T.f__law_any.binds (ps := ["_law_jug_here", "_law_size"]) fun _ _ _ _ _ _ us hl => match us, hl with | [_, _], _ => rfl
theorem b__law_refused {K : PySem.W.Frag} {mg : Str → Option Value} (T : Txt K mg) : Binds K T.d__law_refused ["_law_word", "_law_size", "_law_one", "_law_other", "_law_times_here"] [] := T.f__law_refused.binds (ps := ["_law_word", "_law_size", "_law_one", "_law_other", "_law_times_here"]) fun _ _ _ _ _ _ us hl => match us, hl with | [_, _, _, _, _], _ => rfl
theorem b__law_errors_right {K : PySem.W.Frag} {mg : Str → Option Value} (T : Txt K mg) : Binds K T.d__law_errors_right ["_law_jug_here", "_law_size"] [] := T.f__law_errors_right.binds (ps := ["_law_jug_here", "_law_size"]) fun _ _ _ _ _ _ us hl => match us, hl with | [_, _], _ => rfl
theorem b_law {K : PySem.W.Frag} {mg : Str → Option Value} (T : Txt K mg) : Binds K T.d_law ["_law_script"] [] := T.f_law.binds (ps := ["_law_script"]) fun _ _ _ _ _ _ us hl => match us, hl with | [_], _ => rfl
theorem kb_effect_on_0_turns_size {K : PySem.W.Frag} {mg : Str → Option Value} (T : Txt K mg) : KBinds K T.d_effect_on ["size", "turns"] ["turns", "size"] (kg 0 2 [1, 0]) (kg 0 2 [1, 0]) := kbinds 0 2 [1, 0] T.f_effect_on (by decide) fun _ _ _ _ _ _ us ws h1 h2 => match us, h1, ws, h2 with | [], _, [_, _], _ => rfl
theorem kb_joined_effect_0_other_one_size {K : PySem.W.Frag} {mg : Str → Option Value} (T : Txt K mg) : KBinds K T.d_joined_effect ["size", "one", "other"] ["other", "one", "size"] (kg 0 3 [2, 1, 0]) (kg 0 3 [2, 1, 0]) := kbinds 0 3 [2, 1, 0] T.f_joined_effect (by decide) fun _ _ _ _ _ _ us ws h1 h2 => match us, h1, ws, h2 with | [], _, [_, _, _], _ => rfl
theorem kb_repeated_effect_0_times_effect_size {K : PySem.W.Frag} {mg : Str → Option Value} (T : Txt K mg) : KBinds K T.d_repeated_effect ["size", "effect", "times"] ["times", "effect", "size"] (kg 0 3 [2, 1, 0]) (kg 0 3 [2, 1, 0]) := kbinds 0 3 [2, 1, 0] T.f_repeated_effect (by decide) fun _ _ _ _ _ _ us ws h1 h2 => match us, h1, ws, h2 with | [], _, [_, _, _], _ => rfl
theorem kb_effect_through_0_turns_sizes {K : PySem.W.Frag} {mg : Str → Option Value} (T : Txt K mg) : KBinds K T.d_effect_through ["sizes", "turns"] ["turns", "sizes"] (kg 0 2 [1, 0]) (kg 0 2 [1, 0]) := kbinds 0 2 [1, 0] T.f_effect_through (by decide) fun _ _ _ _ _ _ us ws h1 h2 => match us, h1, ws, h2 with | [], _, [_, _], _ => rfl
end K35
set_option Elab.async false
set_option maxRecDepth 100000
set_option maxHeartbeats 4000000
set_option linter.unusedVariables false
/-! K35: effects of turns on all scrolls, in plain Lean. -/
namespace K35
def mn (i j : Int) : Int := if j < i then j else i
def mx (i j : Int) : Int := if j > i then j else i
theorem mn_c (i j : Int) : (j < i ∧ mn i j = j) ∨ (i ≤ j ∧ mn i j = i) := by
  unfold mn
  split <;> omega
theorem mx_c (i j : Int) : (i < j ∧ mx i j = j) ∨ (j ≤ i ∧ mx i j = i) := by
  unfold mx
  split <;> omega
/-- between -/
def bt (n l g : Int) : Int := mx l (mn g n)
theorem bt_c {n l g : Int} (h : l ≤ g) : (n ≤ l ∧ bt n l g = l) ∨ (l ≤ n ∧ n ≤ g ∧ bt n l g = n) ∨ (g ≤ n ∧ bt n l g = g) := by
  unfold bt
  have h1 := mn_c g n
  have h2 := mx_c l (mn g n)
  omega
abbrev Eff := Int × Int × Int
def ef (s l h : Int) : Eff := (if l < h then s else 0, l, h)
/-- an effect there is in a room of this size -/
def Valid (size : Int) (e : Eff) : Prop := 0 ≤ e.2.1 ∧ e.2.1 ≤ e.2.2 ∧ e.2.2 ≤ size ∧ (e.2.1 = e.2.2 → e.1 = 0) ∧ (e.2.1 < e.2.2 → e.2.2 - size ≤ e.1 ∧ e.1 ≤ e.2.1)
/-! ### led by turns through rooms -/
/-- the scroll behind n turns -/
def ledN (sz ts : List Int) (x : Int) : Nat → Int
  | 0 => x
  | n + 1 => mn (sz.getD (n + 1) 0) (mx 0 (mn (sz.getD n 0) (ledN sz ts x n + ts.getD n 0)))
def sumN (ts : List Int) : Nat → Int
  | 0 => 0
  | n + 1 => sumN ts n + ts.getD n 0
def led (sz ts : List Int) (x : Int) : Int := ledN sz ts x ts.length
def room0 (sz : List Int) : Int := sz.getD 0 0
theorem sumN_cons (t : Int) (ts : List Int) : ∀ n, sumN (t :: ts) (n + 1) = t + sumN ts n
  | 0 => by
    show (0 : Int) + (t :: ts).getD 0 0 = t + 0
    simp
  | n + 1 => by
    show sumN (t :: ts) (n + 1) + (t :: ts).getD (n + 1) 0 = t + (sumN ts n + ts.getD n 0)
    rw [sumN_cons t ts n]
    simp
    omega
theorem sumN_sum : ∀ ts : List Int, sumN ts ts.length = ts.sum
  | [] => rfl
  | t :: ts => by
    show sumN (t :: ts) (ts.length + 1) = (t :: ts).sum
    rw [sumN_cons, sumN_sum ts, List.sum_cons]
/-- one step: a clamp of both ends -/
theorem step_c {c c' y : Int} (h : 0 ≤ c) (h' : 0 ≤ c') : (y ≤ 0 ∧ mn c' (mx 0 (mn c y)) = 0) ∨ (0 ≤ y ∧ y ≤ c ∧ y ≤ c' ∧ mn c' (mx 0 (mn c y)) = y) ∨ (c ≤ y ∧ c ≤ c' ∧ mn c' (mx 0 (mn c y)) = c) ∨ (c' ≤ y ∧ c' ≤ c ∧ mn c' (mx 0 (mn c y)) = c') := by
  have h1 := mn_c c y
  have h2 := mx_c 0 (mn c y)
  have h3 := mn_c c' (mx 0 (mn c y))
  omega
theorem led_form {sz ts : List Int} (hs : ∀ n, 0 ≤ sz.getD n 0) : ∀ n, (0 ≤ ledN sz ts 0 n ∧ ledN sz ts 0 n ≤ ledN sz ts (room0 sz) n ∧ ledN sz ts (room0 sz) n ≤ sz.getD n 0) ∧
    ∀ s, 0 ≤ s → s ≤ room0 sz → ledN sz ts s n = mx (ledN sz ts 0 n) (mn (ledN sz ts (room0 sz) n) (s + sumN ts n))
  | 0 => by
    have h0 := hs 0
    refine ⟨⟨Int.le_refl _, h0, Int.le_refl _⟩, fun s h1 h2 => ?_⟩
    show s = mx 0 (mn (room0 sz) (s + 0))
    have m1 := mn_c (room0 sz) (s + 0)
    have m2 := mx_c 0 (mn (room0 sz) (s + 0))
    omega
  | n + 1 => by
    obtain ⟨⟨a1, a2, a3⟩, a4⟩ := led_form (ts := ts) hs n
    have c0 := hs n
    have c1 := hs (n + 1)
    have sL := step_c (y := ledN sz ts 0 n + ts.getD n 0) c0 c1
    have sH := step_c (y := ledN sz ts (room0 sz) n + ts.getD n 0) c0 c1
    refine ⟨?_, fun s h1 h2 => ?_⟩
    · show 0 ≤ mn (sz.getD (n + 1) 0) (mx 0 (mn (sz.getD n 0) (ledN sz ts 0 n + ts.getD n 0))) ∧ mn (sz.getD (n + 1) 0) (mx 0 (mn (sz.getD n 0) (ledN sz ts 0 n + ts.getD n 0))) ≤ mn (sz.getD (n + 1) 0) (mx 0 (mn (sz.getD n 0) (ledN sz ts (room0 sz) n + ts.getD n 0))) ∧ mn (sz.getD (n + 1) 0) (mx 0 (mn (sz.getD n 0) (ledN sz ts (room0 sz) n + ts.getD n 0))) ≤ sz.getD (n + 1) 0
      omega
    · have e := a4 s h1 h2
      show mn (sz.getD (n + 1) 0) (mx 0 (mn (sz.getD n 0) (ledN sz ts s n + ts.getD n 0))) = mx (mn (sz.getD (n + 1) 0) (mx 0 (mn (sz.getD n 0) (ledN sz ts 0 n + ts.getD n 0)))) (mn (mn (sz.getD (n + 1) 0) (mx 0 (mn (sz.getD n 0) (ledN sz ts (room0 sz) n + ts.getD n 0)))) (s + (sumN ts n + ts.getD n 0)))
      have sS := step_c (y := ledN sz ts s n + ts.getD n 0) c0 c1
      have m1 := mn_c (ledN sz ts (room0 sz) n) (s + sumN ts n)
      have m2 := mx_c (ledN sz ts 0 n) (mn (ledN sz ts (room0 sz) n) (s + sumN ts n))
      generalize hA : mn (sz.getD (n + 1) 0) (mx 0 (mn (sz.getD n 0) (ledN sz ts s n + ts.getD n 0))) = A at sS ⊢
      generalize hB : mn (sz.getD (n + 1) 0) (mx 0 (mn (sz.getD n 0) (ledN sz ts 0 n + ts.getD n 0))) = B at sL ⊢
      generalize hC : mn (sz.getD (n + 1) 0) (mx 0 (mn (sz.getD n 0) (ledN sz ts (room0 sz) n + ts.getD n 0))) = C at sH ⊢
      have m3 := mn_c C (s + (sumN ts n + ts.getD n 0))
      have m4 := mx_c B (mn C (s + (sumN ts n + ts.getD n 0)))
      generalize sz.getD n 0 = c at *
      generalize sz.getD (n + 1) 0 = c' at *
      generalize ledN sz ts s n = X at *
      generalize ledN sz ts 0 n = L at *
      generalize ledN sz ts (room0 sz) n = U at *
      generalize ts.getD n 0 = t at *
      generalize sumN ts n = S at *
      omega
/-- the effect of turns through rooms -/
def eff (sz ts : List Int) : Eff := ef ts.sum (led sz ts 0) (led sz ts (room0 sz))
theorem eff_bounds {sz ts : List Int} (hs : ∀ n, 0 ≤ sz.getD n 0) : 0 ≤ led sz ts 0 ∧ led sz ts 0 ≤ led sz ts (room0 sz) ∧ led sz ts (room0 sz) ≤ sz.getD ts.length 0 := (led_form hs ts.length).1
/-- all scrolls -/
theorem eff_all {sz ts : List Int} (hs : ∀ n, 0 ≤ sz.getD n 0) {s : Int} (h1 : 0 ≤ s) (h2 : s ≤ room0 sz) : led sz ts s = mx (eff sz ts).2.1 (mn (eff sz ts).2.2 (s + (eff sz ts).1)) := by
  obtain ⟨⟨a1, a2, a3⟩, a4⟩ := led_form (ts := ts) hs ts.length
  have e := a4 s h1 h2
  rw [sumN_sum] at e
  show led sz ts s = mx (led sz ts 0) (mn (led sz ts (room0 sz)) (s + if led sz ts 0 < led sz ts (room0 sz) then ts.sum else 0))
  split
  · exact e
  · rename_i c
    have m1 := mn_c (led sz ts (room0 sz)) (s + 0)
    have m2 := mx_c (led sz ts 0) (mn (led sz ts (room0 sz)) (s + 0))
    have m3 := mn_c (led sz ts (room0 sz)) (s + ts.sum)
    have m4 := mx_c (led sz ts 0) (mn (led sz ts (room0 sz)) (s + ts.sum))
    have e' : led sz ts s = mx (led sz ts 0) (mn (led sz ts (room0 sz)) (s + ts.sum)) := e
    have a2' : led sz ts 0 ≤ led sz ts (room0 sz) := a2
    omega
/-! ### one room alone -/
def inN (size : Int) (ts : List Int) (x : Int) : Nat → Int
  | 0 => x
  | n + 1 => bt (inN size ts x n + ts.getD n 0) 0 size
def one (size : Int) (ts : List Int) (x : Int) : Int := inN size ts x ts.length
def ein (size : Int) (ts : List Int) : Eff := ef ts.sum (one size ts 0) (one size ts size)
theorem in_led {size : Int} (h : 0 ≤ size) {sz ts : List Int} (x : Int) : ∀ n, (∀ m, m ≤ n → sz.getD m 0 = size) → inN size ts x n = ledN sz ts x n
  | 0, _ => rfl
  | n + 1, hq => by
    have ih := in_led h (sz := sz) (ts := ts) x n fun m hm => hq m (by omega)
    show bt (inN size ts x n + ts.getD n 0) 0 size = mn (sz.getD (n + 1) 0) (mx 0 (mn (sz.getD n 0) (ledN sz ts x n + ts.getD n 0)))
    rw [hq n (by omega), hq (n + 1) (by omega), ih]
    have s1 := step_c (y := ledN sz ts x n + ts.getD n 0) h h
    have s2 := bt_c (n := ledN sz ts x n + ts.getD n 0) (l := 0) (g := size) h
    omega
theorem rep_getD (size : Int) (k m : Nat) (h : m ≤ k) : (List.replicate (k + 1) size).getD m 0 = size := by
  rw [List.getD_eq_getElem?_getD, List.getElem?_replicate, if_pos (by omega)]
  rfl
theorem rep_nn {size : Int} (h : 0 ≤ size) (k n : Nat) : 0 ≤ (List.replicate k size).getD n 0 := by
  rw [List.getD_eq_getElem?_getD, List.getElem?_replicate]
  split
  · exact h
  · exact Int.le_refl _
theorem ein_eff {size : Int} (h : 0 ≤ size) (ts : List Int) : ein size ts = eff (List.replicate (ts.length + 1) size) ts := by
  have e := fun x => in_led h (sz := List.replicate (ts.length + 1) size) (ts := ts) x ts.length fun m hm => rep_getD size _ m hm
  have r0 : room0 (List.replicate (ts.length + 1) size) = size := rep_getD size _ 0 (by omega)
  unfold ein eff one led
  rw [e, e, r0]
theorem one_led {size : Int} (h : 0 ≤ size) (ts : List Int) (x : Int) : one size ts x = led (List.replicate (ts.length + 1) size) ts x :=
  in_led h x ts.length fun m hm => rep_getD size _ m hm
theorem one_form {size : Int} (h : 0 ≤ size) (ts : List Int) : (0 ≤ one size ts 0 ∧ one size ts 0 ≤ one size ts size ∧ one size ts size ≤ size) ∧ ∀ s, 0 ≤ s → s ≤ size → one size ts s = mx (one size ts 0) (mn (one size ts size) (s + ts.sum)) := by
  have r0 : room0 (List.replicate (ts.length + 1) size) = size := rep_getD size _ 0 (by omega)
  have f := led_form (ts := ts) (rep_nn h (ts.length + 1)) ts.length
  rw [r0, sumN_sum] at f
  have e : ∀ x, ledN (List.replicate (ts.length + 1) size) ts x ts.length = one size ts x := fun x => (one_led h ts x).symm
  rw [e, e, rep_getD size _ ts.length (by omega)] at f
  refine ⟨f.1, fun s h1 h2 => ?_⟩
  rw [← f.2 s h1 h2, e]
theorem ein_valid {size : Int} (h : 0 ≤ size) (ts : List Int) : Valid size (ein size ts) := by
  obtain ⟨⟨a1, a2, a3⟩, a4⟩ := one_form h ts
  refine ⟨a1, a2, a3, fun e => ?_, fun e => ?_⟩
  · have e' : one size ts 0 = one size ts size := e
    show (if one size ts 0 < one size ts size then ts.sum else 0) = 0
    rw [if_neg (by omega)]
  · have e' : one size ts 0 < one size ts size := e
    show one size ts size - size ≤ (if one size ts 0 < one size ts size then ts.sum else 0) ∧ (if one size ts 0 < one size ts size then ts.sum else 0) ≤ one size ts 0
    rw [if_pos e']
    have q0 := a4 0 (by omega) h
    have q1 := a4 size h (by omega)
    have m1 := mn_c (one size ts size) (0 + ts.sum)
    have m2 := mx_c (one size ts 0) (mn (one size ts size) (0 + ts.sum))
    have m3 := mn_c (one size ts size) (size + ts.sum)
    have m4 := mx_c (one size ts 0) (mn (one size ts size) (size + ts.sum))
    omega
/-! ### one and then another -/
def join (e f : Eff) : Eff := ef (e.1 + f.1) (bt (e.2.1 + f.1) f.2.1 f.2.2) (bt (e.2.2 + f.1) f.2.1 f.2.2)
theorem inN_app (size : Int) (a b : List Int) (x : Int) : ∀ n, n ≤ b.length → inN size (a ++ b) x (a.length + n) = inN size b (inN size a x a.length) n
  | 0, _ => by
    have : ∀ m, m ≤ a.length → inN size (a ++ b) x m = inN size a x m := by
      intro m
      induction m with
      | zero => intro _; rfl
      | succ m ih =>
        intro hm
        show bt (inN size (a ++ b) x m + (a ++ b).getD m 0) 0 size = bt (inN size a x m + a.getD m 0) 0 size
        rw [ih (by omega), List.getD_eq_getElem?_getD, List.getElem?_append_left (by omega), ← List.getD_eq_getElem?_getD]
    exact this a.length (Nat.le_refl _)
  | n + 1, h => by
    show bt (inN size (a ++ b) x (a.length + n) + (a ++ b).getD (a.length + n) 0) 0 size = bt (inN size b (inN size a x a.length) n + b.getD n 0) 0 size
    rw [inN_app size a b x n (by omega), List.getD_eq_getElem?_getD, List.getElem?_append_right (by omega), Nat.add_sub_cancel_left, ← List.getD_eq_getElem?_getD]
theorem one_app (size : Int) (a b : List Int) (x : Int) : one size (a ++ b) x = one size b (one size a x) := by
  unfold one
  rw [List.length_append]
  exact inN_app size a b x b.length (Nat.le_refl _)
theorem join_ein {size : Int} (h : 0 ≤ size) (a b : List Int) : join (ein size a) (ein size b) = ein size (a ++ b) := by
  obtain ⟨⟨a1, a2, a3⟩, _⟩ := one_form h a
  obtain ⟨⟨b1, b2, b3⟩, b4⟩ := one_form h b
  have q0 := b4 (one size a 0) a1 (by omega)
  have q1 := b4 (one size a size) (by omega) a3
  have k : ∀ x, one size b x = mx (one size b 0) (mn (one size b size) (x + b.sum)) → bt (x + (ein size b).1) (one size b 0) (one size b size) = one size b x := fun x hx => by
    show bt (x + if one size b 0 < one size b size then b.sum else 0) (one size b 0) (one size b size) = one size b x
    rw [hx]
    split
    · rfl
    · rename_i c
      unfold bt
      have m1 := mn_c (one size b size) (x + 0)
      have m2 := mx_c (one size b 0) (mn (one size b size) (x + 0))
      have m3 := mn_c (one size b size) (x + b.sum)
      have m4 := mx_c (one size b 0) (mn (one size b size) (x + b.sum))
      omega
  show ef ((ein size a).1 + (ein size b).1) (bt (one size a 0 + (ein size b).1) (one size b 0) (one size b size)) (bt (one size a size + (ein size b).1) (one size b 0) (one size b size)) = ef (a ++ b).sum (one size (a ++ b) 0) (one size (a ++ b) size)
  rw [k _ q0, k _ q1, one_app, one_app, List.sum_append]
  unfold ef
  by_cases c : one size b (one size a 0) < one size b (one size a size)
  · rw [if_pos c, if_pos c]
    have ca : one size a 0 < one size a size := by
      have : one size a 0 ≠ one size a size := fun e => by
        rw [e] at c
        omega
      omega
    have cb : one size b 0 < one size b size := by
      have m1 := mn_c (one size b size) (one size a 0 + b.sum)
      have m2 := mx_c (one size b 0) (mn (one size b size) (one size a 0 + b.sum))
      have m3 := mn_c (one size b size) (one size a size + b.sum)
      have m4 := mx_c (one size b 0) (mn (one size b size) (one size a size + b.sum))
      omega
    show ((if one size a 0 < one size a size then a.sum else 0) + (if one size b 0 < one size b size then b.sum else 0), _) = _
    rw [if_pos ca, if_pos cb]
  · rw [if_neg c, if_neg c]
theorem valid_eq {size : Int} {e : Eff} (v : Valid size e) : ef e.1 e.2.1 e.2.2 = e := by
  obtain ⟨s, l, u⟩ := e
  obtain ⟨v1, v2, v3, v4, v5⟩ := v
  unfold ef
  dsimp only at *
  split
  · rfl
  · rw [v4 (by omega)]
theorem join_id {size : Int} (h : 0 ≤ size) {e : Eff} (v : Valid size e) : join (0, 0, size) e = e := by
  have ve := valid_eq v
  obtain ⟨s, l, u⟩ := e
  obtain ⟨v1, v2, v3, v4, v5⟩ := v
  unfold join
  dsimp only at *
  have c1 := bt_c (n := 0 + s) v2
  have c2 := bt_c (n := size + s) v2
  have e1 : bt (0 + s) l u = l := by omega
  have e2 : bt (size + s) l u = u := by omega
  rw [e1, e2, Int.zero_add]
  exact ve
/-! ### so many times -/
def rep (size : Int) (e : Eff) (n : Int) : Eff := if n = 0 then ef 0 0 size else ef (e.1 * n) (mn e.2.2 (e.2.1 + (n - 1) * mx e.1 0)) (mx e.2.1 (e.2.2 + (n - 1) * mn e.1 0))
theorem rep_zero {size : Int} (h : 0 ≤ size) (e : Eff) : rep size e 0 = (0, 0, size) := by
  unfold rep ef
  rw [if_pos rfl]
  split <;> rfl
/-- the three ways of it -/
theorem rep_c {size : Int} {e : Eff} (v : Valid size e) {n : Int} (hn : 1 ≤ n) : rep size e n = ef (e.1 * n) (if 0 < e.1 then mn e.2.2 (e.2.1 + e.1 * n - e.1) else e.2.1) (if e.1 < 0 then mx e.2.1 (e.2.2 + e.1 * n - e.1) else e.2.2) := by
  obtain ⟨s, l, u⟩ := e
  obtain ⟨v1, v2, v3, v4, v5⟩ := v
  unfold rep
  dsimp only at *
  rw [if_neg (by omega)]
  have p : ∀ z, (n - 1) * z = z * n - z := fun z => by rw [Int.sub_mul, Int.one_mul, Int.mul_comm]
  have e1 : mn u (l + (n - 1) * mx s 0) = if 0 < s then mn u (l + s * n - s) else l := by
    split
    · rename_i c
      have : mx s 0 = s := by
        have := mx_c s 0
        omega
      rw [this, p]
      congr 1
      omega
    · rename_i c
      have : mx s 0 = 0 := by
        have := mx_c s 0
        omega
      rw [this, Int.mul_zero]
      have := mn_c u (l + 0)
      omega
  have e2 : mx l (u + (n - 1) * mn s 0) = if s < 0 then mx l (u + s * n - s) else u := by
    split
    · rename_i c
      have : mn s 0 = s := by
        have := mn_c s 0
        omega
      rw [this, p]
      congr 1
      omega
    · rename_i c
      have : mn s 0 = 0 := by
        have := mn_c s 0
        omega
      rw [this, Int.mul_zero]
      have := mx_c l (u + 0)
      omega
  rw [e1, e2]
theorem rep_one {size : Int} {e : Eff} (v : Valid size e) : rep size e 1 = e := by
  rw [rep_c v (Int.le_refl _)]
  have ve := valid_eq v
  obtain ⟨s, l, u⟩ := e
  obtain ⟨v1, v2, v3, v4, v5⟩ := v
  dsimp only at *
  have e1 : (if 0 < s then mn u (l + s * 1 - s) else l) = l := by
    split
    · have := mn_c u (l + s * 1 - s)
      omega
    · rfl
  have e2 : (if s < 0 then mx l (u + s * 1 - s) else u) = u := by
    split
    · have := mx_c l (u + s * 1 - s)
      omega
    · rfl
  rw [e1, e2, Int.mul_one]
  exact ve
theorem mul_le {s a : Int} (hs : 0 < s) (ha : 1 ≤ a) : s ≤ s * a := by
  have := Int.mul_le_mul_of_nonneg_left ha (show 0 ≤ s by omega)
  omega
theorem mul_ge {s a : Int} (hs : s < 0) (ha : 1 ≤ a) : s * a ≤ s := by
  have := Int.mul_le_mul_of_nonpos_left (show s ≤ 0 by omega) ha
  omega
theorem rep_add {size : Int} {e : Eff} (v : Valid size e) {a b : Int} (ha : 1 ≤ a) (hb : 1 ≤ b) : join (rep size e a) (rep size e b) = rep size e (a + b) := by
  rw [rep_c v ha, rep_c v hb, rep_c v (show 1 ≤ a + b by omega)]
  obtain ⟨s, l, u⟩ := e
  obtain ⟨v1, v2, v3, v4, v5⟩ := v
  dsimp only at *
  rw [Int.mul_add]
  have pa : 0 < s → s ≤ s * a := fun h => mul_le h ha
  have pb : 0 < s → s ≤ s * b := fun h => mul_le h hb
  have na : s < 0 → s * a ≤ s := fun h => mul_ge h ha
  have nb : s < 0 → s * b ≤ s := fun h => mul_ge h hb
  have za : s = 0 → s * a = 0 := fun h => by rw [h, Int.zero_mul]
  have zb : s = 0 → s * b = 0 := fun h => by rw [h, Int.zero_mul]
  generalize s * a = A at *
  generalize s * b = B at *
  unfold join ef
  dsimp only
  rcases (show s < 0 ∨ s = 0 ∨ 0 < s by omega) with c | c | c
  · have := na c
    have := nb c
    have c' : ¬ 0 < s := by omega
    simp only [if_neg c', if_pos c]
    have m1 := mx_c l (u + A - s)
    have m2 := mx_c l (u + B - s)
    have m3 := mx_c l (u + (A + B) - s)
    generalize mx l (u + A - s) = x at *
    generalize mx l (u + B - s) = y at *
    generalize mx l (u + (A + B) - s) = z at *
    have hly : l ≤ y := by omega
    have k : ∀ sh, (sh = if l < y then B else 0) → bt (l + sh) l y = l ∧ bt (x + sh) l y = z := fun sh e => by
      have q1 := bt_c (n := l + sh) hly
      have q2 := bt_c (n := x + sh) hly
      split at e <;> omega
    obtain ⟨k1, k2⟩ := k _ rfl
    rw [k1, k2, Prod.mk.injEq]
    refine ⟨?_, rfl⟩
    split
    · rw [if_pos (by omega), if_pos (by omega)]
    · rfl
  · have := za c
    have := zb c
    have c1 : ¬ 0 < s := by omega
    have c2 : ¬ s < 0 := by omega
    simp only [if_neg c1, if_neg c2]
    have k : ∀ sh, sh = 0 → bt (l + sh) l u = l ∧ bt (u + sh) l u = u := fun sh e => by
      have q1 := bt_c (n := l + sh) v2
      have q2 := bt_c (n := u + sh) v2
      omega
    have e0 : (if l < u then B else 0) = 0 := by split <;> omega
    obtain ⟨k1, k2⟩ := k _ e0
    rw [k1, k2, Prod.mk.injEq]
    refine ⟨?_, rfl⟩
    split <;> omega
  · have := pa c
    have := pb c
    have c' : ¬ s < 0 := by omega
    simp only [if_neg c', if_pos c]
    have m1 := mn_c u (l + A - s)
    have m2 := mn_c u (l + B - s)
    have m3 := mn_c u (l + (A + B) - s)
    generalize mn u (l + A - s) = x at *
    generalize mn u (l + B - s) = y at *
    generalize mn u (l + (A + B) - s) = z at *
    have hly : y ≤ u := by omega
    have k : ∀ sh, (sh = if y < u then B else 0) → bt (x + sh) y u = z ∧ bt (u + sh) y u = u := fun sh e => by
      have q1 := bt_c (n := x + sh) hly
      have q2 := bt_c (n := u + sh) hly
      split at e <;> omega
    obtain ⟨k1, k2⟩ := k _ rfl
    rw [k1, k2, Prod.mk.injEq]
    refine ⟨?_, rfl⟩
    split
    · rw [if_pos (by omega), if_pos (by omega)]
    · rfl
theorem rep_valid {size : Int} (h : 0 ≤ size) {e : Eff} (v : Valid size e) {n : Int} (hn : 0 ≤ n) : Valid size (rep size e n) := by
  by_cases h0 : n = 0
  · subst h0
    rw [rep_zero h]
    refine ⟨Int.le_refl _, h, Int.le_refl _, fun _ => rfl, fun _ => ?_⟩
    show size - size ≤ 0 ∧ (0 : Int) ≤ 0
    omega
  · rw [rep_c v (show 1 ≤ n by omega)]
    obtain ⟨s, l, u⟩ := e
    obtain ⟨v1, v2, v3, v4, v5⟩ := v
    have pa : 0 < s → s ≤ s * n := fun h => mul_le h (by omega)
    have na : s < 0 → s * n ≤ s := fun h => mul_ge h (by omega)
    have za : s = 0 → s * n = 0 := fun h => by rw [h, Int.zero_mul]
    dsimp only at *
    generalize s * n = A at *
    have m1 := mn_c u (l + A - s)
    have m2 := mx_c l (u + A - s)
    unfold Valid ef
    dsimp only
    rcases (show s < 0 ∨ s = 0 ∨ 0 < s by omega) with c | c | c
    · have := na c
      rw [if_neg (show ¬ 0 < s by omega), if_pos c]
      refine ⟨v1, by omega, by omega, fun e => ?_, fun e => ?_⟩
      · rw [if_neg (by omega)]
      · rw [if_pos e]
        omega
    · have := za c
      rw [if_neg (show ¬ 0 < s by omega), if_neg (show ¬ s < 0 by omega)]
      refine ⟨v1, by omega, by omega, fun e => ?_, fun e => ?_⟩
      · rw [if_neg (by omega)]
      · rw [if_pos e]
        omega
    · have := pa c
      rw [if_pos c, if_neg (show ¬ s < 0 by omega)]
      refine ⟨by omega, by omega, by omega, fun e => ?_, fun e => ?_⟩
      · rw [if_neg (by omega)]
      · rw [if_pos e]
        omega
/-- the turns so many times -/
def reps (ts : List Int) (n : Nat) : List Int := (List.replicate n ts).flatten
theorem rep_ein {size : Int} (h : 0 ≤ size) (ts : List Int) : ∀ n : Nat, rep size (ein size ts) n = ein size (reps ts n)
  | 0 => by
    rw [show ((0 : Nat) : Int) = 0 from rfl, rep_zero h]
    show _ = ef 0 0 size
    unfold ef
    split <;> rfl
  | 1 => by
    rw [show ((1 : Nat) : Int) = 1 from rfl, rep_one (ein_valid h ts)]
    show _ = ein size (ts ++ [])
    rw [List.append_nil]
  | n + 2 => by
    have ih := rep_ein h ts (n + 1)
    have v := ein_valid h ts
    have q := rep_add v (a := 1) (b := ((n + 1 : Nat) : Int)) (by omega) (by omega)
    rw [rep_one v, ih, join_ein h] at q
    rw [show ((n + 2 : Nat) : Int) = 1 + ((n + 1 : Nat) : Int) by omega, ← q]
    rfl
/-! ### all numbers so many times as great -/
def mul (k : Int) (e : Eff) : Eff := (k * e.1, k * e.2.1, k * e.2.2)
theorem mul_lt_iff {k a b : Int} (hk : 0 < k) : (k * a < k * b) ↔ a < b := ⟨fun h => Int.lt_of_mul_lt_mul_left h (by omega), fun h => Int.mul_lt_mul_of_pos_left h hk⟩
theorem mn_mul {k : Int} (hk : 0 < k) (a b : Int) : mn (k * a) (k * b) = k * mn a b := by
  unfold mn
  by_cases h : b < a
  · rw [if_pos h, if_pos ((mul_lt_iff hk).mpr h)]
  · rw [if_neg h, if_neg (fun q => h ((mul_lt_iff hk).mp q))]
theorem mx_mul {k : Int} (hk : 0 < k) (a b : Int) : mx (k * a) (k * b) = k * mx a b := by
  unfold mx
  by_cases h : b > a
  · rw [if_pos h, if_pos ((mul_lt_iff hk).mpr h)]
  · rw [if_neg h, if_neg (fun q => h ((mul_lt_iff hk).mp q))]
theorem bt_mul {k : Int} (hk : 0 < k) (n l g : Int) : bt (k * n) (k * l) (k * g) = k * bt n l g := by
  unfold bt
  rw [mn_mul hk, mx_mul hk]
theorem ef_mul {k : Int} (hk : 0 < k) (s l h : Int) : ef (k * s) (k * l) (k * h) = mul k (ef s l h) := by
  unfold ef mul
  by_cases c : l < h
  · rw [if_pos c, if_pos ((mul_lt_iff hk).mpr c)]
  · rw [if_neg c, if_neg (fun q => c ((mul_lt_iff hk).mp q)), Int.mul_zero]
theorem sum_mul (k : Int) : ∀ ts : List Int, (ts.map (k * ·)).sum = k * ts.sum
  | [] => by simp
  | t :: ts => by
    rw [List.map_cons, List.sum_cons, List.sum_cons, sum_mul k ts, Int.mul_add]
theorem getD_mul (k : Int) (ts : List Int) (n : Nat) : (ts.map (k * ·)).getD n 0 = k * ts.getD n 0 := by
  rw [List.getD_eq_getElem?_getD, List.getElem?_map, List.getD_eq_getElem?_getD]
  cases ts[n]? with
  | none => simp
  | some x => rfl
theorem ledN_mul {k : Int} (hk : 0 < k) (sz ts : List Int) (x : Int) : ∀ n, ledN (sz.map (k * ·)) (ts.map (k * ·)) (k * x) n = k * ledN sz ts x n
  | 0 => rfl
  | n + 1 => by
    show mn ((sz.map (k * ·)).getD (n + 1) 0) (mx 0 (mn ((sz.map (k * ·)).getD n 0) (ledN (sz.map (k * ·)) (ts.map (k * ·)) (k * x) n + (ts.map (k * ·)).getD n 0))) = k * mn (sz.getD (n + 1) 0) (mx 0 (mn (sz.getD n 0) (ledN sz ts x n + ts.getD n 0)))
    rw [ledN_mul hk sz ts x n, getD_mul, getD_mul, getD_mul, ← Int.mul_add, mn_mul hk]
    have := mx_mul hk 0 (mn (sz.getD n 0) (ledN sz ts x n + ts.getD n 0))
    rw [Int.mul_zero] at this
    rw [this, mn_mul hk]
theorem eff_mul {k : Int} (hk : 0 < k) (sz ts : List Int) : eff (sz.map (k * ·)) (ts.map (k * ·)) = mul k (eff sz ts) := by
  have r : room0 (sz.map (k * ·)) = k * room0 sz := getD_mul k sz 0
  have e : ∀ x, led (sz.map (k * ·)) (ts.map (k * ·)) (k * x) = k * led sz ts x := fun x => by
    unfold led
    rw [List.length_map]
    exact ledN_mul hk sz ts x _
  have e0 := e 0
  rw [Int.mul_zero] at e0
  unfold eff
  rw [sum_mul, e0, r, e, ef_mul hk]
theorem ein_mul {k : Int} (hk : 0 < k) {size : Int} (h : 0 ≤ size) (ts : List Int) : ein (k * size) (ts.map (k * ·)) = mul k (ein size ts) := by
  rw [ein_eff h, ein_eff (Int.mul_nonneg (by omega) h), ← eff_mul hk, List.length_map, List.map_replicate]
theorem join_mul {k : Int} (hk : 0 < k) (e f : Eff) : join (mul k e) (mul k f) = mul k (join e f) := by
  unfold join
  show ef (k * e.1 + k * f.1) (bt (k * e.2.1 + k * f.1) (k * f.2.1) (k * f.2.2)) (bt (k * e.2.2 + k * f.1) (k * f.2.1) (k * f.2.2)) = _
  rw [← Int.mul_add, ← Int.mul_add, ← Int.mul_add, bt_mul hk, bt_mul hk, ef_mul hk]
theorem valid_mul {k : Int} (hk : 0 < k) {size : Int} {e : Eff} (v : Valid size e) : Valid (k * size) (mul k e) := by
  obtain ⟨s, l, u⟩ := e
  obtain ⟨v1, v2, v3, v4, v5⟩ := v
  unfold Valid mul
  dsimp only at *
  refine ⟨Int.mul_nonneg (by omega) v1, Int.mul_le_mul_of_nonneg_left v2 (by omega), Int.mul_le_mul_of_nonneg_left v3 (by omega), fun q => ?_, fun q => ?_⟩
  · rw [v4 (Int.eq_of_mul_eq_mul_left (by omega) q), Int.mul_zero]
  · have := v5 ((mul_lt_iff hk).mp q)
    rw [← Int.mul_sub]
    exact ⟨Int.mul_le_mul_of_nonneg_left this.1 (by omega), Int.mul_le_mul_of_nonneg_left this.2 (by omega)⟩
theorem rep_mul {k : Int} (hk : 0 < k) (size : Int) (e : Eff) (n : Int) : rep (k * size) (mul k e) n = mul k (rep size e n) := by
  unfold rep
  split
  · have := ef_mul hk 0 0 size
    rw [Int.mul_zero] at this
    exact this
  · show ef (k * e.1 * n) (mn (k * e.2.2) (k * e.2.1 + (n - 1) * mx (k * e.1) 0)) (mx (k * e.2.1) (k * e.2.2 + (n - 1) * mn (k * e.1) 0)) = _
    have m1 := mx_mul hk e.1 0
    have m2 := mn_mul hk e.1 0
    rw [Int.mul_zero] at m1 m2
    rw [m1, m2, Int.mul_assoc, Int.mul_left_comm (n - 1), Int.mul_left_comm (n - 1), ← Int.mul_add, ← Int.mul_add, mn_mul hk, mx_mul hk, ef_mul hk]
/-! ### great ones -/
theorem great_dn {far y m : Int} (h1 : 1 ≤ y) (h2 : y < far) (hm : 1 ≤ m) : Valid far (y, y, far) ∧ rep far (y, y, far) m = if y * m < far then (y * m, y * m, far) else (0, far, far) := by
  have v : Valid far (y, y, far) := by
    unfold Valid
    dsimp only
    omega
  refine ⟨v, ?_⟩
  rw [rep_c v hm]
  dsimp only
  rw [if_pos (by omega), if_neg (by omega)]
  have m1 := mn_c far (y + y * m - y)
  generalize y * m = A at *
  unfold ef
  split
  · rw [if_pos (by omega), show mn far (y + A - y) = A by omega]
  · rw [if_neg (by omega), show mn far (y + A - y) = far by omega]
theorem great_up {far y m : Int} (h1 : 1 ≤ y) (h2 : y < far) (hm : 1 ≤ m) : Valid far (0 - y, 0, far - y) ∧ rep far (0 - y, 0, far - y) m = if y * m < far then (0 - y * m, 0, far - y * m) else (0, 0, 0) := by
  have v : Valid far (0 - y, 0, far - y) := by
    unfold Valid
    dsimp only
    omega
  refine ⟨v, ?_⟩
  rw [rep_c v hm]
  dsimp only
  rw [if_neg (by omega), if_pos (by omega)]
  have e : (0 - y) * m = 0 - y * m := by rw [Int.sub_mul, Int.zero_mul]
  rw [e]
  have m1 := mx_c 0 (far - y + (0 - y * m) - (0 - y))
  have := mul_le (s := y) (a := m) (by omega) hm
  generalize y * m = A at *
  unfold ef
  split
  · rw [if_pos (by omega), show mx 0 (far - y + (0 - A) - (0 - y)) = far - A by omega]
  · rw [if_neg (by omega), show mx 0 (far - y + (0 - A) - (0 - y)) = 0 by omega]
end K35
set_option Elab.async false
set_option linter.all false
set_option maxRecDepth 100000
set_option maxHeartbeats 4000000
namespace K35
open PySem L2 My
theorem at0 {α : Type} {a : α} {l : List α} : atI (a :: l) 0 = some a := atI_nat (j := 0) rfl
theorem at1 {α : Type} {a b : α} {l : List α} : atI (a :: b :: l) 1 = some b := atI_nat (j := 1) rfl
theorem at2 {α : Type} {a b c : α} {l : List α} : atI (a :: b :: c :: l) 2 = some c := atI_nat (j := 2) rfl
theorem _root_.My.Raised.mono {C : Addr} {v : V} {H H1 : Hp} {E : XK} (e : Ex H H1) (h : Raised C v H E) : Raised C v H1 E := fun d H' hd e' hx => h d H' (Evl.fresh_back e hd) (e.trans e') hx
/-- a tuple of three ints -/
abbrev t3 (e : Eff) : List V := [.int e.1, .int e.2.1, .int e.2.2]
theorem mapI_get {ts : List Int} {i : Nat} {x : V} (h : (ts.map V.int)[i]? = some x) : ∃ t, ts[i]? = some t ∧ x = V.int t := by
  rw [List.getElem?_map] at h
  cases e : ts[i]? with
  | none =>
    rw [e] at h
    cases h
  | some t =>
    rw [e] at h
    exact ⟨t, rfl, (Option.some.inj h).symm⟩
theorem getD_of {ts : List Int} {i : Nat} {t : Int} (h : ts[i]? = some t) : ts.getD i 0 = t := by
  rw [List.getD_eq_getElem?_getD, h]
  rfl
def sp_need_from (C : Addr) : Sp := fun vs H Q E => ∃ n l : Int, vs = [.int n, .int l] ∧ (l ≤ n → Q .non H) ∧ (n < l → Raised C (.int n) H E)
def sp_need_rooms (K : PySem.W.Frag) (C : Addr) : Sp := fun vs H Q E => ∃ (a : Addr) (ns : List Int), vs = [.ref a] ∧ SqL K H a (ns.map V.int) ∧ ((∀ n ∈ ns, 0 ≤ n) → Q .non H) ∧
  (∀ (i : Nat) (n : Int), ns[i]? = some n → (∀ m ∈ ns.take i, 0 ≤ m) → n < 0 → Raised C (.int n) H E)
def sp_check_effect (K : PySem.W.Frag) (C : Addr) : Sp := fun vs H Q E => ∃ (size : Int) (a : Addr) (e : Eff), vs = [.int size, .ref a] ∧ SqT K H a (t3 e) ∧ (Valid size e → Q .non H) ∧ (¬ Valid size e → Raised C (.ref a) H E)
def sp_need_effect (K : PySem.W.Frag) (C C' : Addr) : Sp := fun vs H Q E => ∃ (size : Int) (a : Addr) (e : Eff), vs = [.int size, .ref a] ∧ SqT K H a (t3 e) ∧ (0 ≤ size → Valid size e → Q .non H) ∧ (size < 0 → Raised C (.int size) H E) ∧ (0 ≤ size → ¬ Valid size e → Raised C' (.ref a) H E)
def sp_between : Sp := fun vs H Q _ => ∃ n l g : Int, vs = [.int n, .int l, .int g] ∧ Q (.int (bt n l g)) H
def sp_effect_from : Sp := fun vs H Q _ => ∃ s l h : Int, vs = [.int s, .int l, .int h] ∧ New (.tup (t3 (ef s l h))) H Q
def sp_effect_in (K : PySem.W.Frag) : Sp := fun vs H Q _ => ∃ (size : Int) (a : Addr) (ts : List Int), vs = [.int size, .ref a] ∧ SqL K H a (ts.map V.int) ∧ New (.tup (t3 (ein size ts))) H Q
def sp_effect_on (K : PySem.W.Frag) (C : Addr) : Sp := fun vs H Q E => ∃ (size : Int) (a : Addr) (ts : List Int), vs = [.int size, .ref a] ∧ SqL K H a (ts.map V.int) ∧ (0 ≤ size → New (.tup (t3 (ein size ts))) H Q) ∧ (size < 0 → Raised C (.int size) H E)
def sp_joined_effect (K : PySem.W.Frag) (C C' : Addr) : Sp := fun vs H Q E => ∃ (size : Int) (a b : Addr) (e f : Eff), vs = [.int size, .ref a, .ref b] ∧ SqT K H a (t3 e) ∧ SqT K H b (t3 f) ∧
  (0 ≤ size → Valid size e → Valid size f → New (.tup (t3 (join e f))) H Q) ∧ (size < 0 → Raised C (.int size) H E) ∧ (0 ≤ size → ¬ Valid size e → Raised C' (.ref a) H E) ∧ (0 ≤ size → Valid size e → ¬ Valid size f → Raised C' (.ref b) H E)
def sp_repeated_effect (K : PySem.W.Frag) (C C' : Addr) : Sp := fun vs H Q E => ∃ (size : Int) (a : Addr) (e : Eff) (n : Int), vs = [.int size, .ref a, .int n] ∧ SqT K H a (t3 e) ∧ n.natAbs < 2 ^ 200 ∧ e.1.natAbs < 2 ^ 200 ∧
  (0 ≤ size → Valid size e → 0 ≤ n → New (.tup (t3 (rep size e n))) H Q) ∧ (size < 0 → Raised C (.int size) H E) ∧ (0 ≤ size → ¬ Valid size e → Raised C' (.ref a) H E) ∧ (0 ≤ size → Valid size e → n < 0 → Raised C (.int n) H E)
def sp_effect_through (K : PySem.W.Frag) (C : Addr) : Sp := fun vs H Q E => ∃ (a b : Addr) (sz ts : List Int), vs = [.ref a, .ref b] ∧ SqL K H a (sz.map V.int) ∧ SqL K H b (ts.map V.int) ∧
  ((∀ n ∈ sz, 0 ≤ n) → sz.length = ts.length + 1 → New (.tup (t3 (eff sz ts))) H Q) ∧ (∀ (i : Nat) (n : Int), sz[i]? = some n → (∀ m ∈ sz.take i, 0 ≤ m) → n < 0 → Raised C (.int n) H E) ∧
  ((∀ n ∈ sz, 0 ≤ n) → sz.length ≠ ts.length + 1 → Raised C (.int ts.length) H E)
section
variable {w : World} {K : PySem.W.Frag} {mg : Str → Option Value} {base : Heap}
theorem ok_need_from (T : Txt K mg) : FnOk PR w K mg base (L2.CX PR w) 3 T.a_need_from T.d_need_from ["number", "least"] (sp_need_from T.c_InvalidNumber) := by
  refine T.f_need_from.okX sc_need_from (fun vs H Q E h => ?_) (fun cdv A outer s H vs Q E hr h => ?_)
  · obtain ⟨n, l, rfl, _⟩ := h
    rfl
  · obtain ⟨n, l, rfl, k1, k2⟩ := h
    refine ⟨_, (pss_one (ps_if (pt_cmpR op_lt (pv 0) (pv 1) (nomark _)) (pss_one (ps_raise rfl (takes_of rfl rfl rfl rfl) (pmk_err (ok_init T) (b_init T) T.e_InvalidNumber (hr.mono (by decide)) (by rfl) T.g_InvalidNumber (pa_cons (pv 0) pa_nil)))) pss_nil)), ?_⟩
    refine ⟨_, rfl, _, rfl, _, _, rfl, rfl, _, rfl, ?_⟩
    refine ifB (fun c => ?_) (fun c => ?_)
    · exact ⟨_, rfl, _, rfl, k2 (of_decide_eq_true c)⟩
    · exact k1 (by have := of_decide_eq_false c; omega)
theorem ok_need_rooms (T : Txt K mg) : FnOk PR w K mg base (L2.CX PR w) 4 T.a_need_rooms T.d_need_rooms ["rooms"] (sp_need_rooms K T.c_InvalidNumber) := by
  refine T.f_need_rooms.okX sc_need_rooms (fun vs H Q E h => ?_) (fun cdv A outer s H vs Q E hr h => ?_)
  · obtain ⟨a, R, rfl, _⟩ := h
    rfl
  · obtain ⟨a, ns, rfl, ha, k0, k1⟩ := h
    refine ⟨_, (pss_one (ps_for (passes_of rfl) rfl (pi_list (pv 0)) (pg_name (i := 1) sc_need_rooms.nd rfl (by first | exact Or.inl rfl | exact Or.inr rfl)) (pss_one (ps_expr (pe_call (ok_need_from T) (hr.mono (by decide)) (by rfl) T.g_need_from T.f_need_from.kp (b_need_from T) .nil passX (pa_cons (pv 1) (pa_cons pe_int pa_nil))))))), ?_⟩
    refine ⟨_, rfl, a, rfl, ⟨_, ha⟩, for_list (K := K) (a := a) (xs := ns.map V.int) (fun i σ H' => ∃ v, σ = [some (.ref a), v] ∧ H' = H ∧ ∀ m ∈ ns.take i, 0 ≤ m) ⟨_, rfl, rfl, fun m hm => by simp at hm⟩ (fun i σ H' _ ⟨_, _, e, _⟩ => by rw [e]; exact ha) ?_ ?_⟩
    · rintro i x σ H' hi ⟨v, rfl, rfl, h1⟩
      obtain ⟨t, ht, rfl⟩ := mapI_get hi
      refine ⟨_, rfl, t, 0, rfl, fun c => ⟨_, rfl, rfl, fun m hm => ?_⟩, fun c => k1 i t ht h1 c⟩
      rw [List.take_add_one, ht] at hm
      rcases List.mem_append.mp hm with q | q
      · exact h1 m q
      · have : m = t := by simpa using q
        omega
    · rintro σ H' ⟨v, rfl, rfl, h1⟩
      rw [List.length_map, List.take_of_length_le (Nat.le_refl _)] at h1
      exact k0 h1
theorem ok_check_effect (T : Txt K mg) : FnOk PR w K mg base (L2.CX PR w) 3 T.a_check_effect T.d_check_effect ["size", "effect"] (sp_check_effect K T.c_InvalidValue) := by
  refine T.f_check_effect.okX sc_check_effect (fun vs H Q E h => ?_) (fun cdv A outer s H vs Q E hr h => ?_)
  · obtain ⟨size, a, e, rfl, _⟩ := h
    rfl
  · obtain ⟨size, a, ⟨s, l, u⟩, rfl, ha, k1, k2⟩ := h
    refine ⟨_, (pss_cons (ps_asg (pv 1) (pg_tup rfl (pgs_cons (pg_name (i := 2) sc_check_effect.nd rfl (by first | exact Or.inl rfl | exact Or.inr rfl)) (pgs_cons (pg_name (i := 3) sc_check_effect.nd rfl (by first | exact Or.inl rfl | exact Or.inr rfl)) (pgs_cons (pg_name (i := 4) sc_check_effect.nd rfl (by first | exact Or.inl rfl | exact Or.inr rfl)) pgs_nil))))) (pss_cons (ps_if (pt_cut (pt_not (pt_chain3 op_le op_le op_le pe_int (pv 3) (pv 4) (pv 0)))) (pss_one (ps_raise rfl (takes_of rfl rfl rfl rfl) (pmk_err (ok_init T) (b_init T) T.e_InvalidValue (hr.mono (by decide)) (by rfl) T.g_InvalidValue (pa_cons (pv 1) pa_nil)))) pss_nil) (pss_one (ps_if (pt_cut (PW.pt (pw_or (pt_cut (PW.pt (pw_and (pt_cmpR op_eq (pv 3) (pv 4) (nomark _)) (pw_and1 (pt_cmpR op_ne (pv 2) pe_int (nomark _)))))) (pw_or1 (pt_cut (PW.pt (pw_and (pt_cmpR op_lt (pv 3) (pv 4) (nomark _)) (pw_and1 (pt_not (pt_chain op_le op_le (pe_op op_sub (pv 4) (pv 0)) (pv 2) (pv 3))))))))))) (pss_one (ps_raise rfl (takes_of rfl rfl rfl rfl) (pmk_err (ok_init T) (b_init T) T.e_InvalidValue (hr.mono (by decide)) (by rfl) T.g_InvalidValue (pa_cons (pv 1) pa_nil)))) pss_nil)))), ?_⟩
    refine ⟨_, rfl, _, _, rfl, ha, rfl, _, _, rfl, _, _, rfl, _, _, rfl, rfl, ?_⟩
    refine ⟨fun b H' => H' = H ∧ b = !decide (0 ≤ l ∧ l ≤ u ∧ u ≤ size), ?_, ?_⟩
    · refine ⟨_, rfl, _, _, rfl, rfl, _, rfl, ?_⟩
      refine ifB (fun c => ?_) (fun c => ?_)
      · have c' : 0 ≤ l := of_decide_eq_true c
        refine ⟨_, rfl, _, _, rfl, rfl, _, rfl, ?_⟩
        refine ifB (fun d => ?_) (fun d => ?_)
        · have d' : l ≤ u := of_decide_eq_true d
          refine ⟨_, rfl, _, _, rfl, rfl, _, rfl, rfl, ?_⟩
          congr 1
          exact decide_eq_decide.mpr ⟨fun h => ⟨c', d', h⟩, fun h => h.2.2⟩
        · have d' : ¬ l ≤ u := of_decide_eq_false d
          refine ⟨_, rfl, rfl, ?_⟩
          rw [decide_eq_false (fun h => d' h.2.1)]
      · have c' : ¬ 0 ≤ l := of_decide_eq_false c
        refine ⟨_, rfl, rfl, ?_⟩
        rw [decide_eq_false (fun h => c' h.1)]
    rintro b H' ⟨rfl, eb⟩
    refine ifB (fun c => ?_) (fun c => ?_)
    · refine ⟨_, rfl, _, rfl, k2 fun v => ?_⟩
      rw [eb, decide_eq_true ⟨v.1, v.2.1, v.2.2.1⟩] at c
      cases c
    · rw [eb] at c
      have c' : 0 ≤ l ∧ l ≤ u ∧ u ≤ size := by
        have : decide (0 ≤ l ∧ l ≤ u ∧ u ≤ size) = true := by
          cases q : decide (0 ≤ l ∧ l ≤ u ∧ u ≤ size) with
          | true => rfl
          | false =>
            rw [q] at c
            cases c
        exact of_decide_eq_true this
      refine ⟨fun b H'' => H'' = H' ∧ b = decide ((l = u ∧ s ≠ 0) ∨ (l < u ∧ ¬ (u - size ≤ s ∧ s ≤ l))), ?_, ?_⟩
      · refine ⟨fun b H'' => H'' = H' ∧ b = decide (l = u ∧ s ≠ 0), ?_, ?_⟩
        · refine ⟨_, rfl, _, rfl, rfl, _, rfl, ?_⟩
          refine ifB (fun d => ?_) (fun d => ?_)
          · have d' : l = u := by simpa using d
            refine ⟨_, rfl, rfl, _, rfl, rfl, ?_⟩
            by_cases g : s = 0
            · rw [decide_eq_true (congrArg V.int g), decide_eq_false (by omega)]
              rfl
            · rw [decide_eq_false (fun q => g (by simpa using q)), decide_eq_true (by omega)]
              rfl
          · have d' : ¬ l = u := by simpa using d
            exact ⟨rfl, by rw [decide_eq_false (by omega)]⟩
        rintro b1 H1 ⟨rfl, e1⟩
        refine ifB (fun d => ?_) (fun d => ?_)
        · rw [e1] at d
          have d' := of_decide_eq_true d
          exact ⟨rfl, by rw [decide_eq_true (by omega)]⟩
        · rw [e1] at d
          have d' := of_decide_eq_false d
          refine ⟨fun b H'' => H'' = H1 ∧ b = decide (l < u ∧ ¬ (u - size ≤ s ∧ s ≤ l)), ?_, ?_⟩
          · refine ⟨_, rfl, _, rfl, _, _, rfl, rfl, _, rfl, ?_⟩
            refine ifB (fun f => ?_) (fun f => ?_)
            · have f' : l < u := of_decide_eq_true f
              refine ⟨_, rfl, _, rfl, _, _, rfl, rfl, _, rfl, _, _, rfl, rfl, _, rfl, ?_⟩
              refine ifB (fun g => ?_) (fun g => ?_)
              · have g' : u - size ≤ s := of_decide_eq_true g
                refine ⟨_, rfl, _, _, rfl, rfl, _, rfl, rfl, ?_⟩
                show (!decide (s ≤ l)) = _
                by_cases j : s ≤ l
                · rw [decide_eq_true j, decide_eq_false (by omega)]
                  rfl
                · rw [decide_eq_false j, decide_eq_true (by omega)]
                  rfl
              · have g' : ¬ u - size ≤ s := of_decide_eq_false g
                refine ⟨_, rfl, rfl, ?_⟩
                rw [decide_eq_true (by omega)]
                rfl
            · have f' : ¬ l < u := of_decide_eq_false f
              exact ⟨rfl, by rw [decide_eq_false (by omega)]⟩
          · rintro b2 H2 ⟨rfl, e2⟩
            refine ⟨rfl, ?_⟩
            rw [e2]
            exact decide_eq_decide.mpr ⟨fun h => .inr h, fun h => h.resolve_left d'⟩
      · rintro b1 H1 ⟨rfl, e1⟩
        refine ifB (fun d => ?_) (fun d => ?_)
        · rw [e1] at d
          have d' := of_decide_eq_true d
          refine ⟨_, rfl, _, rfl, k2 fun v => ?_⟩
          obtain ⟨v1, v2, v3, v4, v5⟩ := v
          dsimp only at v4 v5
          omega
        · rw [e1] at d
          have d' := of_decide_eq_false d
          refine k1 ⟨c'.1, c'.2.1, c'.2.2, fun h => ?_, fun h => ?_⟩
          · dsimp only at h ⊢
            omega
          · dsimp only at h ⊢
            omega
theorem ok_need_effect (T : Txt K mg) : FnOk PR w K mg base (L2.CX PR w) 4 T.a_need_effect T.d_need_effect ["size", "effect"] (sp_need_effect K T.c_InvalidNumber T.c_InvalidValue) := by
  refine T.f_need_effect.okX sc_need_effect (fun vs H Q E h => ?_) (fun cdv A outer s H vs Q E hr h => ?_)
  · obtain ⟨size, a, e, rfl, _⟩ := h
    rfl
  · obtain ⟨size, a, e, rfl, ha, k1, k2, k3⟩ := h
    refine ⟨_, (pss_cons (ps_expr (pe_call (ok_need_from T) (hr.mono (by decide)) (by rfl) T.g_need_from T.f_need_from.kp (b_need_from T) .nil passX (pa_cons (pv 0) (pa_cons pe_int pa_nil)))) (pss_one (ps_expr (pe_call (ok_check_effect T) (hr.mono (by decide)) (by rfl) T.g_check_effect T.f_check_effect.kp (b_check_effect T) .nil passX (pa_cons (pv 0) (pa_cons (pv 1) pa_nil)))))), ?_⟩
    refine ⟨_, rfl, size, 0, rfl, fun c => ?_, k2⟩
    exact ⟨_, rfl, _, rfl, size, a, e, rfl, ha, fun v => k1 c v, fun v => k3 c v⟩
theorem ok_between (T : Txt K mg) : FnOk PR w K mg base CX0 1 T.a_between T.d_between ["number", "least", "greatest"] sp_between := by
  refine T.f_between.ok sc_between (fun vs H Q E h => ?_) (fun cdv A outer s H vs Q E hr h => ?_)
  · obtain ⟨n, l, g, rfl, _⟩ := h
    rfl
  · obtain ⟨n, l, g, rfl, k⟩ := h
    refine ⟨_, (pss_one (ps_ret (pe_callB (call_max2 rfl) (by rfl) T.z_max (by decide +kernel) (pa_cons (pv 1) (pa_cons (pe_callB (call_min2 rfl) (by rfl) T.z_min (by decide +kernel) (pa_cons (pv 2) (pa_cons (pv 0) pa_nil))) pa_nil))))), ?_⟩
    exact ⟨_, rfl, _, rfl, _, rfl, _, _, rfl, _, _, rfl, k⟩
theorem ok_effect_from (T : Txt K mg) : FnOk PR w K mg base CX0 1 T.a_effect_from T.d_effect_from ["shift", "low", "high"] sp_effect_from := by
  refine T.f_effect_from.ok sc_effect_from (fun vs H Q E h => ?_) (fun cdv A outer s H vs Q E hr h => ?_)
  · obtain ⟨n, l, g, rfl, _⟩ := h
    rfl
  · obtain ⟨n, l, g, rfl, k⟩ := h
    refine ⟨_, (pss_one (ps_ret (pe_tupG (pa_cons (pe_cut (pe_ifExp (pt_cmpR op_lt (pv 1) (pv 2) (nomark _)) (pv 0) pe_int)) (pa_cons (pv 1) (pa_cons (pv 2) pa_nil)))))), ?_⟩
    refine ⟨fun v H' => H' = H ∧ v = .int (if l < g then n else 0), ?_, ?_⟩
    · refine ⟨_, rfl, _, rfl, _, _, rfl, rfl, _, rfl, ?_⟩
      refine ifB (fun c => ?_) (fun c => ?_)
      · exact ⟨_, rfl, rfl, by rw [if_pos (of_decide_eq_true c)]⟩
      · exact ⟨rfl, by rw [if_neg (of_decide_eq_false c)]⟩
    rintro v H' ⟨rfl, rfl⟩
    exact ⟨_, rfl, _, rfl, (by show 3 ≤ sizeLine; decide), k⟩
theorem ok_effect_in (T : Txt K mg) : FnOk PR w K mg base CX0 2 T.a_effect_in T.d_effect_in ["size", "turns"] (sp_effect_in K) := by
  refine T.f_effect_in.ok sc_effect_in (fun vs H Q E h => ?_) (fun cdv A outer s H vs Q E hr h => ?_)
  · obtain ⟨n, a, ts, rfl, _⟩ := h
    rfl
  · obtain ⟨n, a, ts, rfl, ha, k⟩ := h
    refine ⟨_, (pss_cons (ps_par (by rfl) sc_effect_in.nd rfl rfl (by decide) rfl rfl (i := 2) (j := 3) (pa_cons pe_int (pa_cons (pv 0) pa_nil)) (by rfl)) (pss_cons (ps_for PassesOwn.never rfl (pi_list (pv 1)) (pg_name (i := 4) sc_effect_in.nd rfl (by first | exact Or.inl rfl | exact Or.inr rfl)) (pss_one (ps_par (by rfl) sc_effect_in.nd rfl rfl (by decide) rfl rfl (i := 2) (j := 3) (pa_cons (pe_call (ok_between T) (hr.mono (by decide)) (by rfl) T.g_between T.f_between.kp (b_between T) .nil pass0 (pa_cons (pe_op op_add (pv 2) (pv 4)) (pa_cons pe_int (pa_cons (pv 0) pa_nil)))) (pa_cons (pe_call (ok_between T) (hr.mono (by decide)) (by rfl) T.g_between T.f_between.kp (b_between T) .nil pass0 (pa_cons (pe_op op_add (pv 3) (pv 4)) (pa_cons pe_int (pa_cons (pv 0) pa_nil)))) pa_nil)) (by rfl)))) (pss_one (ps_ret (pe_call (ok_effect_from T) (hr.mono (by decide)) (by rfl) T.g_effect_from T.f_effect_from.kp (b_effect_from T) .nil pass0 (pa_cons (pe_callB (cr_sum rfl) (by rfl) T.z_sum (by decide +kernel) (pa_cons (pv 1) pa_nil)) (pa_cons (pv 2) (pa_cons (pv 3) pa_nil)))))))), ?_⟩
    refine ⟨_, rfl, _, _, rfl, ?_⟩
    refine ⟨_, rfl, a, rfl, ⟨_, ha⟩, for_list (K := K) (a := a) (xs := ts.map V.int) (fun i σ H' => ∃ v, σ = [some (.int n), some (.ref a), some (.int (inN n ts 0 i)), some (.int (inN n ts n i)), v] ∧ H' = H) ⟨_, rfl, rfl⟩ (fun i σ H' _ ⟨_, _, e⟩ => by rw [e]; exact ha) ?_ ?_⟩
    · rintro i x σ H' hi ⟨v, rfl, rfl⟩
      obtain ⟨t, ht, rfl⟩ := mapI_get hi
      refine ⟨_, rfl, _, rfl, _, _, rfl, rfl, _, rfl, _, _, _, rfl, ?_⟩
      refine ⟨_, rfl, _, rfl, _, _, rfl, rfl, _, rfl, _, _, _, rfl, ?_⟩
      refine ⟨_, _, rfl, some (.int t), ?_, rfl⟩
      show _ = [_, _, some (V.int (bt (inN n ts 0 i + ts.getD i 0) 0 n)), some (V.int (bt (inN n ts n i + ts.getD i 0) 0 n)), _]
      rw [getD_of ht]
      rfl
    · rintro σ H' ⟨v, rfl, rfl⟩
      refine ⟨_, rfl, a, ts, rfl, ha, ?_⟩
      refine ⟨_, rfl, _, rfl, _, _, _, rfl, ?_⟩
      rw [List.length_map]
      exact k
theorem ok_effect_on (T : Txt K mg) : FnOk PR w K mg base (L2.CX PR w) 4 T.a_effect_on T.d_effect_on ["size", "turns"] (sp_effect_on K T.c_InvalidNumber) := by
  refine T.f_effect_on.okX sc_effect_on (fun vs H Q E h => ?_) (fun cdv A outer s H vs Q E hr h => ?_)
  · obtain ⟨n, a, ts, rfl, _⟩ := h
    rfl
  · obtain ⟨n, a, ts, rfl, ha, k, k2⟩ := h
    refine ⟨_, (pss_cons (ps_expr (pe_call (ok_need_from T) (hr.mono (by decide)) (by rfl) T.g_need_from T.f_need_from.kp (b_need_from T) .nil passX (pa_cons (pv 0) (pa_cons pe_int pa_nil)))) (pss_one (ps_ret (pe_call (ok_effect_in T) (hr.mono (by decide)) (by rfl) T.g_effect_in T.f_effect_in.kp (b_effect_in T) .nil pass0 (pa_cons (pv 0) (pa_cons (pv 1) pa_nil)))))), ?_⟩
    refine ⟨_, rfl, n, 0, rfl, fun c => ?_, k2⟩
    exact ⟨_, rfl, _, rfl, n, a, ts, rfl, ha, k c⟩
theorem ok_joined_effect (T : Txt K mg) : FnOk PR w K mg base (L2.CX PR w) 5 T.a_joined_effect T.d_joined_effect ["size", "one", "other"] (sp_joined_effect K T.c_InvalidNumber T.c_InvalidValue) := by
  refine T.f_joined_effect.okX sc_joined_effect (fun vs H Q E h => ?_) (fun cdv A outer s H vs Q E hr h => ?_)
  · obtain ⟨n, a, b, e, f, rfl, _⟩ := h
    rfl
  · obtain ⟨n, a, b, e, f, rfl, ha, hb, k, k1, k2, k3⟩ := h
    refine ⟨_, (pss_cons (ps_expr (pe_call (ok_need_effect T) (hr.mono (by decide)) (by rfl) T.g_need_effect T.f_need_effect.kp (b_need_effect T) .nil passX (pa_cons (pv 0) (pa_cons (pv 1) pa_nil)))) (pss_cons (ps_expr (pe_call (ok_check_effect T) (hr.mono (by decide)) (by rfl) T.g_check_effect T.f_check_effect.kp (b_check_effect T) .nil passX (pa_cons (pv 0) (pa_cons (pv 2) pa_nil)))) (pss_cons (ps_asg (pv 2) (pg_tup rfl (pgs_cons (pg_name (i := 3) sc_joined_effect.nd rfl (by first | exact Or.inl rfl | exact Or.inr rfl)) (pgs_cons (pg_name (i := 4) sc_joined_effect.nd rfl (by first | exact Or.inl rfl | exact Or.inr rfl)) (pgs_cons (pg_name (i := 5) sc_joined_effect.nd rfl (by first | exact Or.inl rfl | exact Or.inr rfl)) pgs_nil))))) (pss_cons (ps_par (by rfl) sc_joined_effect.nd rfl rfl (by decide) rfl rfl (i := 6) (j := 7) (pa_cons (pe_call (ok_between T) (hr.mono (by decide)) (by rfl) T.g_between T.f_between.kp (b_between T) .nil pass0 (pa_cons (pe_op op_add (pe_ix ix_tup (pv 1) pe_int (fun _ _ => rfl)) (pv 3)) (pa_cons (pv 4) (pa_cons (pv 5) pa_nil)))) (pa_cons (pe_call (ok_between T) (hr.mono (by decide)) (by rfl) T.g_between T.f_between.kp (b_between T) .nil pass0 (pa_cons (pe_op op_add (pe_ix ix_tup (pv 1) pe_int (fun _ _ => rfl)) (pv 3)) (pa_cons (pv 4) (pa_cons (pv 5) pa_nil)))) pa_nil)) (by rfl)) (pss_one (ps_ret (pe_call (ok_effect_from T) (hr.mono (by decide)) (by rfl) T.g_effect_from T.f_effect_from.kp (b_effect_from T) .nil pass0 (pa_cons (pe_op op_add (pe_ix ix_tup (pv 1) pe_int (fun _ _ => rfl)) (pv 3)) (pa_cons (pv 6) (pa_cons (pv 7) pa_nil)))))))))), ?_⟩
    refine ⟨_, rfl, _, rfl, n, a, e, rfl, ha, fun c v => ?_, k1, k2⟩
    refine ⟨_, rfl, _, rfl, n, b, f, rfl, hb, fun v2 => ?_, fun v2 => k3 c v v2⟩
    refine ⟨_, rfl, _, _, rfl, hb, rfl, _, _, rfl, _, _, rfl, _, _, rfl, rfl, ?_⟩
    refine ⟨_, rfl, _, _, _, _, rfl, rfl, ha, at1, _, rfl, _, _, rfl, rfl, _, rfl, _, rfl, _, _, _, rfl, ?_⟩
    refine ⟨_, rfl, _, _, _, _, rfl, rfl, ha, at2, _, rfl, _, _, rfl, rfl, _, rfl, _, rfl, _, _, _, rfl, ?_⟩
    refine ⟨_, _, rfl, ?_⟩
    refine ⟨_, rfl, _, _, _, _, rfl, rfl, ha, at0, _, rfl, _, _, rfl, rfl, _, rfl, _, rfl, _, _, _, rfl, ?_⟩
    exact k c v v2
theorem ok_repeated_effect (T : Txt K mg) : FnOk PR w K mg base (L2.CX PR w) 5 T.a_repeated_effect T.d_repeated_effect ["size", "effect", "times"] (sp_repeated_effect K T.c_InvalidNumber T.c_InvalidValue) := by
  refine T.f_repeated_effect.okX sc_repeated_effect (fun vs H Q E h => ?_) (fun cdv A outer s H vs Q E hr h => ?_)
  · obtain ⟨n, a, e, m, rfl, _⟩ := h
    rfl
  · obtain ⟨n, a, e, m, rfl, ha, bm, be, k, k1, k2, k3⟩ := h
    refine ⟨_, (pss_cons (ps_expr (pe_call (ok_need_effect T) (hr.mono (by decide)) (by rfl) T.g_need_effect T.f_need_effect.kp (b_need_effect T) .nil passX (pa_cons (pv 0) (pa_cons (pv 1) pa_nil)))) (pss_cons (ps_expr (pe_call (ok_need_from T) (hr.mono (by decide)) (by rfl) T.g_need_from T.f_need_from.kp (b_need_from T) .nil passX (pa_cons (pv 2) (pa_cons pe_int pa_nil)))) (pss_cons (ps_if (pt_cmpR op_eq (pv 2) pe_int (nomark _)) (pss_one (ps_ret (pe_call (ok_effect_from T) (hr.mono (by decide)) (by rfl) T.g_effect_from T.f_effect_from.kp (b_effect_from T) .nil pass0 (pa_cons pe_int (pa_cons pe_int (pa_cons (pv 0) pa_nil)))))) pss_nil) (pss_cons (ps_asg (pv 1) (pg_tup rfl (pgs_cons (pg_name (i := 3) sc_repeated_effect.nd rfl (by first | exact Or.inl rfl | exact Or.inr rfl)) (pgs_cons (pg_name (i := 4) sc_repeated_effect.nd rfl (by first | exact Or.inl rfl | exact Or.inr rfl)) (pgs_cons (pg_name (i := 5) sc_repeated_effect.nd rfl (by first | exact Or.inl rfl | exact Or.inr rfl)) pgs_nil))))) (pss_cons (ps_set (i := 6) sc_repeated_effect.nd rfl (by first | exact Or.inl rfl | exact Or.inr rfl) (pe_callB (call_min2 rfl) (by rfl) T.z_min (by decide +kernel) (pa_cons (pv 5) (pa_cons (pe_op op_add (pv 4) (pe_op op_mulW (pe_op op_sub (pv 2) pe_int) (pe_callB (call_max2 rfl) (by rfl) T.z_max (by decide +kernel) (pa_cons (pv 3) (pa_cons pe_int pa_nil))))) pa_nil)))) (pss_cons (ps_set (i := 7) sc_repeated_effect.nd rfl (by first | exact Or.inl rfl | exact Or.inr rfl) (pe_callB (call_max2 rfl) (by rfl) T.z_max (by decide +kernel) (pa_cons (pv 4) (pa_cons (pe_op op_add (pv 5) (pe_op op_mulW (pe_op op_sub (pv 2) pe_int) (pe_callB (call_min2 rfl) (by rfl) T.z_min (by decide +kernel) (pa_cons (pv 3) (pa_cons pe_int pa_nil))))) pa_nil)))) (pss_one (ps_ret (pe_call (ok_effect_from T) (hr.mono (by decide)) (by rfl) T.g_effect_from T.f_effect_from.kp (b_effect_from T) .nil pass0 (pa_cons (pe_op op_mulW (pv 3) (pv 2)) (pa_cons (pv 6) (pa_cons (pv 7) pa_nil)))))))))))), ?_⟩
    refine ⟨_, rfl, _, rfl, n, a, e, rfl, ha, fun c v => ?_, k1, k2⟩
    refine ⟨_, rfl, m, 0, rfl, fun c2 => ?_, fun c2 => k3 c v c2⟩
    refine ⟨_, rfl, rfl, _, rfl, ?_⟩
    have k := k c v c2
    refine ifB (fun q => ?_) (fun q => ?_)
    · have q' : m = 0 := by simpa using q
      refine ⟨_, rfl, _, _, _, rfl, ?_⟩
      unfold rep at k
      rw [if_pos q'] at k
      exact k
    · have q' : ¬ m = 0 := by simpa using q
      unfold rep at k
      rw [if_neg q'] at k
      refine ⟨_, rfl, _, _, rfl, ha, rfl, _, _, rfl, _, _, rfl, _, _, rfl, rfl, ?_⟩
      refine ⟨_, rfl, _, rfl, _, rfl, _, _, rfl, rfl, _, rfl, _, _, rfl, _, _, rfl, rfl, wide_mul (a := 201) (b := 201) (by omega) (by split <;> omega) (by decide) (by decide) (by decide), _, _, rfl, rfl, _, _, rfl, ?_⟩
      refine ⟨_, rfl, _, rfl, _, rfl, _, _, rfl, rfl, _, rfl, _, _, rfl, _, _, rfl, rfl, wide_mul (a := 201) (b := 201) (by omega) (by split <;> omega) (by decide) (by decide) (by decide), _, _, rfl, rfl, _, _, rfl, ?_⟩
      refine ⟨_, rfl, _, rfl, _, _, rfl, rfl, wide_mul be bm (by decide) (by decide) (by decide), _, rfl, _, rfl, _, _, _, rfl, ?_⟩
      exact k
theorem nn_getD {sz : List Int} (h : ∀ n ∈ sz, 0 ≤ n) (n : Nat) : 0 ≤ sz.getD n 0 := by
  rw [List.getD_eq_getElem?_getD]
  cases e : sz[n]? with
  | none => exact Int.le_refl _
  | some x => exact h x (List.mem_of_getElem? e)
theorem ok_effect_through (T : Txt K mg) : FnOk PR w K mg base (L2.CX PR w) 5 T.a_effect_through T.d_effect_through ["sizes", "turns"] (sp_effect_through K T.c_InvalidNumber) := by
  refine T.f_effect_through.okX sc_effect_through (fun vs H Q E h => ?_) (fun cdv A outer s H vs Q E hr h => ?_)
  · obtain ⟨a, b, sz, ts, rfl, _⟩ := h
    rfl
  · obtain ⟨a, b, sz, ts, rfl, ha, hb, k, k1, k2⟩ := h
    refine ⟨_, (pss_cons (ps_expr (pe_call (ok_need_rooms T) (hr.mono (by decide)) (by rfl) T.g_need_rooms T.f_need_rooms.kp (b_need_rooms T) .nil passX (pa_cons (pv 0) pa_nil))) (pss_cons (ps_if (pt_cmpR op_ne (pe_callB call_len_seq (by rfl) T.z_len PySem.boot_len (pa_cons (pv 1) pa_nil)) (pe_op op_sub (pe_callB call_len_seq (by rfl) T.z_len PySem.boot_len (pa_cons (pv 0) pa_nil)) pe_int) (nomark _)) (pss_one (ps_raise rfl (takes_of rfl rfl rfl rfl) (pmk_err (ok_init T) (b_init T) T.e_InvalidNumber (hr.mono (by decide)) (by rfl) T.g_InvalidNumber (pa_cons (pe_callB call_len_seq (by rfl) T.z_len PySem.boot_len (pa_cons (pv 1) pa_nil)) pa_nil)))) pss_nil) (pss_cons (ps_par (by rfl) sc_effect_through.nd rfl rfl (by decide) rfl rfl (i := 2) (j := 3) (pa_cons pe_int (pa_cons (pe_ix ix_list (pv 0) pe_int (fun _ _ => rfl)) pa_nil)) (by rfl)) (pss_cons (ps_for (passes_of rfl) rfl (pi_zip3 (by rfl) T.z_zip (pa_cons (pv 0) (pa_cons (pe_slice sl_listG (pv 0) (po_some pe_int) po_none) (pa_cons (pv 1) pa_nil)))) (pg_tup rfl (pgs_cons (pg_name (i := 4) sc_effect_through.nd rfl (by first | exact Or.inl rfl | exact Or.inr rfl)) (pgs_cons (pg_name (i := 5) sc_effect_through.nd rfl (by first | exact Or.inl rfl | exact Or.inr rfl)) (pgs_cons (pg_name (i := 6) sc_effect_through.nd rfl (by first | exact Or.inl rfl | exact Or.inr rfl)) pgs_nil)))) (pss_one (ps_par (by rfl) sc_effect_through.nd rfl rfl (by decide) rfl rfl (i := 2) (j := 3) (pa_cons (pe_callB (call_min2 rfl) (by rfl) T.z_min (by decide +kernel) (pa_cons (pv 5) (pa_cons (pe_call (ok_between T) (hr.mono (by decide)) (by rfl) T.g_between T.f_between.kp (b_between T) .nil pass0 (pa_cons (pe_op op_add (pv 2) (pv 6)) (pa_cons pe_int (pa_cons (pv 4) pa_nil)))) pa_nil))) (pa_cons (pe_callB (call_min2 rfl) (by rfl) T.z_min (by decide +kernel) (pa_cons (pv 5) (pa_cons (pe_call (ok_between T) (hr.mono (by decide)) (by rfl) T.g_between T.f_between.kp (b_between T) .nil pass0 (pa_cons (pe_op op_add (pv 3) (pv 6)) (pa_cons pe_int (pa_cons (pv 4) pa_nil)))) pa_nil))) pa_nil)) (by rfl)))) (pss_one (ps_ret (pe_call (ok_effect_from T) (hr.mono (by decide)) (by rfl) T.g_effect_from T.f_effect_from.kp (b_effect_from T) .nil pass0 (pa_cons (pe_callB (cr_sum rfl) (by rfl) T.z_sum (by decide +kernel) (pa_cons (pv 1) pa_nil)) (pa_cons (pv 2) (pa_cons (pv 3) pa_nil)))))))))), ?_⟩
    refine ⟨_, rfl, a, sz, rfl, ha, fun nn => ?_, k1⟩
    refine ⟨_, rfl, _, _, rfl, .inl hb, _, rfl, _, _, rfl, .inl ha, _, _, rfl, rfl, rfl, _, rfl, ?_⟩
    refine ifB (fun q => ?_) (fun q => ?_)
    · refine ⟨_, rfl, _, _, rfl, .inl hb, _, rfl, ?_⟩
      have q' : sz.length ≠ ts.length + 1 := fun e => by
        simp [e] at q
      have := k2 nn q'
      rw [List.length_map]
      exact this
    · have q' : sz.length = ts.length + 1 := by
        simp at q
        omega
      have k := k nn q'
      match sz, q', ha, nn, k with
      | s0 :: sr, q', ha, nn, k =>
        have lr : sr.length = ts.length := by
          have : sr.length + 1 = ts.length + 1 := q'
          omega
        refine ⟨_, rfl, _, _, _, _, rfl, rfl, ha, at0, _, _, rfl, ?_⟩
        have ec : cutV ((s0 :: sr).map V.int) (some 1) none = sr.map V.int := cut_from _ 1
        refine ⟨_, rfl, _, rfl, _, rfl, _, _, rfl, ha, fun p1 H1 n1 e1 h1 => ?_⟩
        rw [ec] at h1
        refine ⟨_, rfl, a, p1, b, _, _, _, rfl, Evl.ex_l e1 ha, sqI h1, Evl.ex_l e1 hb, for_zip3 (K := K) (a := a) (b := p1) (c := b) (xs := (s0 :: sr).map V.int) (ys := sr.map V.int) (zs := ts.map V.int) (by simp) (by simp [lr])
          (fun i σ H' => ∃ v1 v2 v3, σ = [some (.ref a), some (.ref b), some (.int (ledN (s0 :: sr) ts 0 i)), some (.int (ledN (s0 :: sr) ts s0 i)), v1, v2, v3] ∧ Ex H1 H') ⟨_, _, _, rfl, Evl.Ex.refl _⟩ (fun i σ H' ⟨_, _, _, _, e⟩ => ⟨Evl.ex_l (e1.trans e) ha, sqI (e _ _ h1), Evl.ex_l (e1.trans e) hb⟩) ?_ ?_⟩
        · rintro i x y z p σ H' hx hy hz ⟨v1, v2, v3, rfl, e⟩ np
          obtain ⟨c, hc, rfl⟩ := mapI_get hx
          obtain ⟨c', hc', rfl⟩ := mapI_get hy
          obtain ⟨t, ht, rfl⟩ := mapI_get hz
          have e2 : Ex H1 (upd H' p (.tup [.int c, .int c', .int t])) := e.trans (Evl.Ex.new np)
          have hp : upd H' p (.tup [.int c, .int c', .int t]) p = some (.tup [.int c, .int c', .int t]) := upd_same
          generalize upd H' p (.tup [.int c, .int c', .int t]) = H2 at e2 hp ⊢
          refine ⟨_, _, rfl, sqT hp, rfl, _, _, rfl, _, _, rfl, _, _, rfl, rfl, ?_⟩
          refine ⟨_, rfl, _, rfl, _, rfl, _, _, rfl, rfl, _, rfl, _, _, _, rfl, ?_⟩
          refine ⟨_, _, rfl, _, rfl, _, rfl, _, rfl, _, _, rfl, rfl, _, rfl, _, _, _, rfl, ?_⟩
          refine ⟨_, _, rfl, _, _, rfl, some (.int c), some (.int c'), some (.int t), ?_, e2⟩
          have hc2 : (s0 :: sr).getD (i + 1) 0 = c' := getD_of (show (s0 :: sr)[i + 1]? = some c' from hc')
          show _ = [_, _, some (V.int (mn ((s0 :: sr).getD (i + 1) 0) (mx 0 (mn ((s0 :: sr).getD i 0) (ledN (s0 :: sr) ts 0 i + ts.getD i 0))))), some (V.int (mn ((s0 :: sr).getD (i + 1) 0) (mx 0 (mn ((s0 :: sr).getD i 0) (ledN (s0 :: sr) ts s0 i + ts.getD i 0))))), _, _, _]
          rw [getD_of ht, getD_of hc, hc2]
          rfl
        · rintro σ H' ⟨v1, v2, v3, rfl, e⟩
          refine ⟨_, rfl, b, ts, rfl, Evl.ex_l (e1.trans e) hb, ?_⟩
          refine ⟨_, rfl, _, rfl, _, _, _, rfl, fun p3 H3 n3 e3 h3 => ?_⟩
          rw [List.length_map, lr] at h3
          exact k p3 H3 (Evl.fresh_back (e1.trans e) n3) (e1.trans (e.trans e3)) h3
end
end K35
set_option Elab.async false
set_option linter.all false
set_option maxRecDepth 100000
set_option maxHeartbeats 4000000
namespace K35
open PySem L2 My
/-! ### the jug -/
/-- a jug of draws stands at j, of which at most B were mixed -/
def Jug (H : Hp) (j : Addr) (B : Int) : Prop := ∃ x y z : Int, H j = some (.lst [.int x, .int y, .int z]) ∧ 0 ≤ y ∧ y < 2 ^ 200 ∧ 0 ≤ z ∧ z ≤ B
theorem Jug.ex {H H' : Hp} {j : Addr} {B : Int} (e : Ex H H') : Jug H j B → Jug H' j B
  | ⟨x, y, z, h, r⟩ => ⟨x, y, z, e _ _ h, r⟩
theorem Jug.mono {H : Hp} {j : Addr} {B B' : Int} (h : B ≤ B') : Jug H j B → Jug H j B'
  | ⟨x, y, z, h1, h2, h3, h4, h5⟩ => ⟨x, y, z, h1, h2, h3, h4, by omega⟩
theorem mix_lt {m z : Int} (h0 : 0 ≤ m) (h1 : m < 2 ^ 200) (z0 : 0 ≤ z) (z1 : z ≤ 2 ^ 60) : (m + 13466917 * (z + 1)).natAbs < 2 ^ 210 := by omega
def sp__law_pour : Sp := fun vs H Q _ => ∃ (j : Addr) (many B : Int), vs = [.ref j, .int many] ∧ Jug H j B ∧ B ≤ 2 ^ 60 ∧ 0 < many ∧ many < 2 ^ 200 ∧
  ∀ (n : Int) (H' : Hp), 0 ≤ n → n < many → Exj j H H' → Jug H' j (B + 1) → Q (.int n) H'
section
variable {P : Program} {w : World} {K : PySem.W.Frag} {mg : Str → Option Value} {base : Heap}
theorem ok__law_pour (T : Txt K mg) : FnOk P w K mg base CX0 1 T.a__law_pour T.d__law_pour ["_law_jug_here", "_law_many"] sp__law_pour := by
  refine T.f__law_pour.ok sc__law_pour (fun vs H Q E h => ?_) (fun cdv A outer s H vs Q E hr h => ?_)
  · obtain ⟨j, many, B, rfl, _⟩ := h
    rfl
  · obtain ⟨j, many, B, rfl, ⟨x, y, z, hj, y0, y1, z0, z1⟩, hB, m0, m1, k⟩ := h
    refine ⟨_, (pss_cons (ps_if (pt_cmpR op_gt (pe_ix ix_list (pv 0) pe_int (fun _ _ => rfl)) pe_int (nomark _)) (pss_cons (ps_set (i := 2) sc__law_pour.nd rfl (by first | exact Or.inl rfl | exact Or.inr rfl) (pe_op op_mod (pe_callTy call_int1 (by rfl) T.z_int (by decide +kernel) (pa_cons (pe_ix ix_list (pv 0) pe_int (fun _ _ => rfl)) pa_nil)) (pv 1))) (pss_cons (ps_asg (pe_op op_fdivW (pe_ix ix_list (pv 0) pe_int (fun _ _ => rfl)) (pv 1)) (pg_sub (pv 0) pe_int set_list)) (pss_one (ps_ret (pv 2))))) pss_nil) (pss_cons (ps_asg (pe_op op_add (pe_ix ix_list (pv 0) pe_int (fun _ _ => rfl)) pe_int) (pg_sub (pv 0) pe_int set_list)) (pss_cons (ps_set (i := 3) sc__law_pour.nd rfl (by first | exact Or.inl rfl | exact Or.inr rfl) (pe_op op_mod (pe_callTy call_int1 (by rfl) T.z_int (by decide +kernel) (pa_cons (pe_op op_powW (pe_op op_add (pe_ix ix_list (pv 0) pe_int (fun _ _ => rfl)) (pe_op op_mulW pe_int (pe_ix ix_list (pv 0) pe_int (fun _ _ => rfl)))) pe_int) pa_nil)) (pe_op op_add (pe_op op_powW pe_int pe_int) pe_int))) (pss_cons (ps_set (i := 3) sc__law_pour.nd rfl (by first | exact Or.inl rfl | exact Or.inr rfl) (pe_op op_mod (pe_callTy call_int1 (by rfl) T.z_int (by decide +kernel) (pa_cons (pe_op op_powW (pe_op op_add (pv 3) (pe_op op_mulW pe_int (pe_ix ix_list (pv 0) pe_int (fun _ _ => rfl)))) pe_int) pa_nil)) (pe_op op_add (pe_op op_powW pe_int pe_int) pe_int))) (pss_one (ps_ret (pe_op op_mod (pe_op op_fdivW (pv 3) pe_int) (pv 1)))))))), ?_⟩
    have sq : ∀ {H' : Hp} {l : List V}, H' j = some (.lst l) → SqL K H' j l := fun h => sqI h
    have m2 : many.natAbs < 2 ^ 200 := by omega
    -- if _law_jug_here[0] > 0:
    refine ⟨_, rfl, _, _, _, _, rfl, rfl, sq hj, at0, _, _, rfl, rfl, _, rfl, ?_⟩
    refine ite2 (fun c => ?_) (fun c => ?_)
    · -- _law_found = int(_law_jug_here[0]) % _law_many
      refine ⟨_, rfl, _, _, _, _, rfl, rfl, sq hj, at0, .inl ⟨_, rfl, ?_⟩⟩
      refine ⟨_, rfl, _, _, rfl, rfl, m0, ?_⟩
      -- _law_jug_here[0] = _law_jug_here[0] // _law_many
      refine ⟨_, rfl, _, _, _, _, rfl, rfl, sq hj, at0, _, rfl, _, _, rfl, rfl, wide_div m0 m2 (by decide) (by decide), _, rfl, _, _, _, _, rfl, rfl, hj, (show _ = some 0 from rfl), ?_⟩
      -- return _law_found
      refine ⟨_, rfl, ?_⟩
      exact k _ _ (Int.emod_nonneg _ (by omega)) (Int.emod_lt_of_pos _ m0) (Exj.refl _ _).upd ⟨_, y, z, upd_same, y0, y1, z0, by omega⟩
    · -- _law_jug_here[2] = _law_jug_here[2] + 1
      refine ⟨_, rfl, _, _, _, _, rfl, rfl, sq hj, at2, _, _, rfl, rfl, _, rfl, _, _, _, _, rfl, rfl, hj, (show _ = some 2 from rfl), ?_⟩
      have hj1 : upd H j (.lst [.int x, .int y, .int (z + 1)]) j = some (.lst [.int x, .int y, .int (z + 1)]) := upd_same
      have ez : (z + 1).natAbs < 2 ^ 70 := by omega
      have b1 : (y + 24036583 * (z + 1)).natAbs < 2 ^ 210 := by omega
      -- _law_mixed = ..
      refine ⟨_, rfl, _, _, _, _, rfl, rfl, sq hj1, at1, _, rfl, _, _, _, _, rfl, rfl, sq hj1, at2, _, _, rfl, rfl, wide_mul (a := 30) (b := 70) (by decide) ez (by decide) (by decide) (by decide), _, _, rfl, rfl, _, _, rfl, rfl, powW_of (j := 3) b1 (by decide) (by decide), .inl ⟨_, rfl, ?_⟩⟩
      refine ⟨_, _, rfl, rfl, (show CPowW 10 42 by constructor <;> decide +kernel), _, _, rfl, rfl, _, _, rfl, rfl, (show (0 : Int) < 10 ^ (42 : Int).toNat + 63 by decide +kernel), ?_⟩
      -- the first mixture by a letter
      have q0 := Int.emod_nonneg ((y + 24036583 * (z + 1)) ^ (3 : Int).toNat) (show ((10 : Int) ^ (42 : Int).toNat + 63) ≠ 0 by decide +kernel)
      have q1 := Int.emod_lt_of_pos ((y + 24036583 * (z + 1)) ^ (3 : Int).toNat) (show 0 < ((10 : Int) ^ (42 : Int).toNat + 63) by decide +kernel)
      have q2 : ((10 : Int) ^ (42 : Int).toNat + 63) < 2 ^ 200 := by decide +kernel
      have b2 := mix_lt (z := z) q0 (Int.lt_trans q1 q2) z0 (Int.le_trans z1 hB)
      -- _law_mixed = ..
      refine ⟨_, rfl, _, rfl, _, _, _, _, rfl, rfl, sq hj1, at2, _, _, rfl, rfl, wide_mul (a := 30) (b := 70) (by decide) ez (by decide) (by decide) (by decide), _, _, rfl, rfl, _, _, rfl, rfl, powW_of (j := 3) b2 (by decide) (by decide), .inl ⟨_, rfl, ?_⟩⟩
      refine ⟨_, _, rfl, rfl, (show CPowW 10 44 by constructor <;> decide +kernel), _, _, rfl, rfl, _, _, rfl, rfl, (show (0 : Int) < 10 ^ (44 : Int).toNat + 57 by decide +kernel), ?_⟩
      -- return _law_mixed // 1299709 % _law_many
      refine ⟨_, rfl, _, _, rfl, rfl, wide_div (b := 40) (by decide) (by decide) (by decide) (by decide), _, rfl, _, _, rfl, rfl, m0, ?_⟩
      exact k _ _ (Int.emod_nonneg _ (by omega)) (Int.emod_lt_of_pos _ m0) (Exj.refl _ _).upd ⟨x, y, z + 1, upd_same, y0, y1, by omega, by omega⟩
end
def sp__law_jug (K : PySem.W.Frag) : Sp := fun vs H Q _ => ∃ (a : Addr) (ns : List Int) (k : Int), vs = [.ref a, .int k] ∧ SqL K H a (ns.map V.int) ∧ 0 ≤ k ∧ k ≤ 100 ∧ ∀ (p : Addr) (H' : Hp), H p = none → Ex H H' → Jug H' p 0 → Q (.ref p) H'
def sp__law_turns : Sp := fun vs H Q _ => ∃ (j : Addr) (most size B : Int), vs = [.ref j, .int most, .int size] ∧ Jug H j B ∧ B ≤ 2 ^ 50 ∧ 0 ≤ most ∧ most ≤ 50 ∧ 0 ≤ size ∧ size ≤ 100 ∧
  ∀ (p : Addr) (H' : Hp) (ts : List Int), H p = none → Exj j H H' → Jug H' j (B + 100) → H' p = some (.lst (ts.map V.int)) → ts.length ≤ 60 → (∀ t ∈ ts, -100 ≤ t ∧ t ≤ 100) → Q (.ref p) H'
theorem Jug.some {H : Hp} {j : Addr} {B : Int} : Jug H j B → ∃ o, H j = some o
  | ⟨_, _, _, h, _⟩ => ⟨_, h⟩
theorem Jug.ne {H : Hp} {j p : Addr} {B : Int} (h : Jug H j B) (n : H p = none) : p ≠ j := by
  obtain ⟨o, ho⟩ := h.some
  exact (ne_of_none ho n).symm
theorem _root_.My.Exj.back {j p : Addr} {H H' : Hp} (e : Exj j H H') (n : p ≠ j) (h : H' p = none) : H p = none := by
  cases q : H p with
  | none => rfl
  | some o =>
    rw [e p o n q] at h
    cases h
section
variable {P : Program} {w : World} {K : PySem.W.Frag} {mg : Str → Option Value} {base : Heap}
theorem ok__law_jug (T : Txt K mg) : FnOk P w K mg base CX0 1 T.a__law_jug T.d__law_jug ["_law_script", "_law_k"] (sp__law_jug K) := by
  refine T.f__law_jug.ok sc__law_jug (fun vs H Q E h => ?_) (fun cdv A outer s H vs Q E hr h => ?_)
  · obtain ⟨a, ns, k, rfl, _⟩ := h
    rfl
  · obtain ⟨a, ns, n, rfl, hs, n0, n1, k⟩ := h
    refine ⟨_, (pss_cons (ps_set (i := 2) sc__law_jug.nd rfl (by first | exact Or.inl rfl | exact Or.inr rfl) (pe_cut (pe_ifExp (pt_cmpR op_lt (pv 1) (pe_callB call_len_seq (by rfl) T.z_len PySem.boot_len (pa_cons (pv 0) pa_nil)) (nomark _)) (pe_ix ix_list (pv 0) (pv 1) (fun _ _ => rfl)) pe_int))) (pss_one (ps_ret (pe_lstG (pa_cons (pe_callB (call_max2 rfl) (by rfl) T.z_max (by decide +kernel) (pa_cons pe_int (pa_cons (pe_op op_sub (pv 2) (pe_op op_powW pe_int pe_int)) pa_nil))) (pa_cons (pe_op op_add (pe_op op_add (pe_op op_mulW (pe_op op_mod (pv 2) (pe_op op_add (pe_op op_powW pe_int pe_int) pe_int)) pe_int) (pe_op op_mulW pe_int (pv 1))) pe_int) (pa_cons pe_int pa_nil))))))), ?_⟩
    -- _law_cell = _law_script[_law_k] if _law_k < len(_law_script) else 0
    refine ⟨fun v H' => H' = H ∧ ∃ c : Int, v = .int c, ?_, ?_⟩
    · refine ⟨_, rfl, _, rfl, _, _, rfl, .inl hs, _, _, rfl, rfl, _, rfl, ?_⟩
      refine ifB (fun c => ?_) (fun c => ⟨rfl, _, rfl⟩)
      have c' : n < ((ns.map V.int).length : Int) := of_decide_eq_true c
      rw [List.length_map] at c'
      have hx : ns[n.toNat]? = some (ns[n.toNat]'(by omega)) := List.getElem?_eq_getElem (by omega)
      refine ⟨_, rfl, _, rfl, _, _, _, _, rfl, rfl, hs, at_of (j := n.toNat) (by omega) (by rw [List.getElem?_map, hx]; rfl), rfl, _, rfl⟩
    · rintro v H' ⟨rfl, c, rfl⟩
      have q0 := Int.emod_nonneg c (show ((10 : Int) ^ (39 : Int).toNat + 3) ≠ 0 by decide +kernel)
      have q1 := Int.emod_lt_of_pos c (show 0 < ((10 : Int) ^ (39 : Int).toNat + 3) by decide +kernel)
      have q2 : ((10 : Int) ^ (39 : Int).toNat + 3) < 2 ^ 140 := by decide +kernel
      have b0 : (c % ((10 : Int) ^ (39 : Int).toNat + 3)).natAbs < 2 ^ 140 := by
        have := Int.lt_trans q1 q2
        omega
      refine ⟨_, rfl, _, _, rfl, rfl, (show CPowW 10 18 by constructor <;> decide +kernel), _, _, rfl, rfl, _, _, rfl, _, rfl, _, _, rfl, rfl, (show CPowW 10 39 by constructor <;> decide +kernel), _, _, rfl, rfl, _, _, rfl, rfl, (show (0 : Int) < 10 ^ (39 : Int).toNat + 3 by decide +kernel), _, _, rfl, rfl, wide_mul (b := 10) b0 (by decide) (by decide) (by decide) (by decide), _, rfl, _, _, rfl, rfl, wide_mul (a := 20) (b := 10) (by decide) (by omega) (by decide) (by decide) (by decide), _, _, rfl, rfl, _, _, rfl, rfl, (by show 3 ≤ sizeLine; decide), fun p1 H1 n1 e1 h1 => ?_⟩
      refine k p1 H1 n1 e1 ⟨_, _, _, h1, ?_, ?_, Int.le_refl _, Int.le_refl _⟩
      · show 0 ≤ c % ((10 : Int) ^ (39 : Int).toNat + 3) * 211 + 50021 * n + 29
        have := Int.mul_nonneg q0 (show (0 : Int) ≤ 211 by decide)
        omega
      · show c % ((10 : Int) ^ (39 : Int).toNat + 3) * 211 + 50021 * n + 29 < 2 ^ 200
        generalize c % ((10 : Int) ^ (39 : Int).toNat + 3) = d at q0 b0 ⊢
        omega
theorem ok__law_turns (T : Txt K mg) : FnOk P w K mg base CX0 2 T.a__law_turns T.d__law_turns ["_law_jug_here", "_law_most", "_law_size"] sp__law_turns := by
  refine T.f__law_turns.ok sc__law_turns (fun vs H Q E h => ?_) (fun cdv A outer s H vs Q E hr h => ?_)
  · obtain ⟨j, most, size, B, rfl, _⟩ := h
    rfl
  · obtain ⟨j, most, size, B, rfl, hj, hB, m0, m1, s0, s1, k⟩ := h
    refine ⟨_, (pss_cons (ps_set (i := 3) sc__law_turns.nd rfl (by first | exact Or.inl rfl | exact Or.inr rfl) (pe_cut (pe_ifExp (pt_cmpR op_eq (pe_call (ok__law_pour T) (hr.mono (by decide)) (by rfl) T.g__law_pour T.f__law_pour.kp (b__law_pour T) .nil pass0 (pa_cons (pv 0) (pa_cons pe_int pa_nil))) pe_int (nomark _)) pe_int (pe_call (ok__law_pour T) (hr.mono (by decide)) (by rfl) T.g__law_pour T.f__law_pour.kp (b__law_pour T) .nil pass0 (pa_cons (pv 0) (pa_cons (pe_op op_add (pv 1) pe_int) pa_nil)))))) (pss_one (ps_ret (pe_lc (own := [("_law_turn", 4)]) (g := gName 4) (by rfl) sc__law_turns.nd (pi_range1 (by rfl) T.z_range (pa_cons (pv 3) pa_nil)) (blkOk_by (own := [("_law_turn", 4)]) (N := ["_law_jug_here", "_law_most", "_law_size", "_law_many", "_law_turn"]) (sc := defScope s__law_turns) (by decide +kernel)) (fun _ _ _ _ _ => (pg_name (i := 4) sc__law_turns.nd rfl (by first | exact Or.inl rfl | exact Or.inr rfl))) (fun _ _ _ _ _ => pts_nil) (fun _ _ _ _ _ => (pe_op op_sub (pe_call (ok__law_pour T) (hr.mono (by decide)) (by rfl) T.g__law_pour T.f__law_pour.kp (b__law_pour T) .nil pass0 (pa_cons (pv 0) (pa_cons (pe_op op_add (pe_op op_mulW pe_int (pv 2)) pe_int) pa_nil))) (pv 2))))))), ?_⟩
    refine ⟨fun v H' => ∃ n : Int, v = .int n ∧ 0 ≤ n ∧ n ≤ 60 ∧ Exj j H H' ∧ Jug H' j (B + 2), ?_, ?_⟩
    · refine ⟨_, rfl, j, _, B, rfl, hj, by omega, by decide, by decide, fun n H1 n0 n1 e1 j1 => ?_⟩
      refine ⟨rfl, _, rfl, ?_⟩
      refine ifB (fun c => ⟨60, rfl, by omega, by omega, e1, j1.mono (by omega)⟩) (fun c => ?_)
      refine ⟨_, rfl, _, rfl, _, _, rfl, rfl, j, _, _, rfl, j1, by omega, by omega, by omega, fun n H2 n0 n1 e2 j2 => ?_⟩
      exact ⟨n, rfl, n0, by omega, e1.trans e2, j2.mono (by omega)⟩
    · rintro v H1 ⟨n, rfl, n0, n1, e1, j1⟩
      refine ⟨_, rfl, _, rfl, (by omega), (by omega), fun D hD => lc_range (lo := 0) (n := n.toNat) (fun i H2 => ∃ ts : List Int, Exj j H1 H2 ∧ Jug H2 j (B + 2 + i) ∧ H2 D = some (.lst (ts.map V.int)) ∧ ts.length = i ∧ ∀ t ∈ ts, -100 ≤ t ∧ t ≤ 100) ?_ ?_ ?_⟩
      · exact ⟨[], Exj.of (Evl.Ex.new hD), (j1.ex (Evl.Ex.new hD)).mono (by omega), upd_same, rfl, fun t ht => by cases ht⟩
      · rintro i H2 hi ⟨ts, e2, j2, hd, hl, ht⟩
        have nDj : D ≠ j := j1.ne hD
        refine ⟨rfl, ?_⟩
        show _
        refine ⟨_, rfl, _, rfl, _, _, rfl, rfl, wide_mul (a := 10) (b := 20) (by decide) (by omega) (by decide) (by decide) (by decide), _, _, rfl, rfl, j, _, _, rfl, j2, by omega, by omega, by omega, fun m H3 k0 k1 e3 j3 => ?_⟩
        refine ⟨_, rfl, _, _, rfl, rfl, ts.map V.int, e3 _ _ nDj hd, ?_, ?_⟩
        · rw [List.length_map, hl]
          exact Nat.lt_of_lt_of_le (show i < 60 by omega) (by decide)
        · have exD : Exj j H1 (upd H3 D (.lst (ts.map V.int ++ [.int (m - size)]))) := fun b o nb hb => by
            rw [upd_ne (ne_of_none hb hD)]
            exact e3 _ _ nb (e2 _ _ nb hb)
          refine ⟨ts ++ [m - size], exD, ?_, ?_, by simp [hl], fun t h => ?_⟩
          · obtain ⟨x, y, z, h, r1, r2, r3, r4⟩ := j3
            exact ⟨x, y, z, by rw [upd_ne nDj.symm]; exact h, r1, r2, r3, by omega⟩
          · rw [upd_same, List.map_append]
            rfl
          · rcases List.mem_append.mp h with q | q
            · exact ht t q
            · have : t = m - size := by simpa using q
              omega
      · rintro H2 ⟨ts, e2, j2, hd, hl, ht⟩
        exact k D H2 ts (e1.back (j1.ne hD) hD) (e1.trans e2) (j2.mono (by omega)) hd (by omega) ht
end
end K35
set_option Elab.async false
set_option linter.all false
set_option maxRecDepth 100000
set_option maxHeartbeats 4000000
namespace My
open PySem L2
/-- a comprehension over a range, without tests, the element without a trace -/
theorem lc_mapR {lo : Int} {n : Nat} {ys : List V} {j : Nat} {te : TE} {vs : List Nat} {σ : L2.St} {H1 : Hp} {D : Addr} {Qd : Hp → Prop} (hD : H1 D = none) (hl : ys.length = n) (hz : n ≤ sizeLine)
    (hw : ∀ x, wipe ((wipe σ vs).set j (some x)) vs = wipe σ vs)
    (he : ∀ (i : Nat) y H', Ex H1 H' → i < n → ys[i]? = some y → ∀ R : VK, (∀ H2, Ex H' H2 → R y H2) → te ((wipe σ vs).set j (some (.int (lo + i)))) H' R)
    (k : ∀ H', Ex H1 H' → H' D = some (.lst ys) → Qd H') :
    ∃ W : Nat → Nat → Hp → Prop, (∃ m, W 0 m (upd H1 D (.lst []))) ∧ ∀ i m H, W i m H →
      ((Itr lo n).stop i H ∧ Qd H) ∨ ((Itr lo n).go i H ∧ ∃ Nx : Hp → Prop, (∀ H', Nx H' → ∃ m', m' < m ∧ W (i + 1) m' H') ∧ ∀ x H', (Itr lo n).yld i H x H' → gName j x (wipe σ vs) H' fun σ2 H2 => wipe σ2 vs = wipe σ vs ∧ tYes σ2 H2 fun b H3 =>
        if b = true then te σ2 H3 fun y H4 => ∃ acc, H4 D = some (.lst acc) ∧ acc.length < sizeLine ∧ Nx (upd H4 D (.lst (acc ++ [y]))) else Nx H3) := by
  refine lc_range (fun i H' => Ex H1 H' ∧ H' D = some (.lst (ys.take i))) ⟨Evl.Ex.new hD, upd_same⟩ (fun i H' hi p => ?_) (fun H' p => k H' p.1 ?_)
  · have hy : ys[i]? = some (ys[i]'(by omega)) := List.getElem?_eq_getElem (by omega)
    refine ⟨hw _, ?_⟩
    show te ((wipe σ vs).set j (some (.int (lo + i)))) H' _
    refine he i _ H' p.1 hi hy _ fun H2 e2 => ⟨ys.take i, e2 _ _ p.2, ?_, ?_⟩
    · rw [List.length_take]
      omega
    · refine ⟨Evl.Ex.mut (p.1.trans e2) hD, ?_⟩
      rw [upd_same, List.take_add_one, hy]
      rfl
  · have := p.2
    rw [List.take_of_length_le (by omega)] at this
    exact this
/-- a comprehension over a tuple, without tests, the element without a trace -/
theorem lc_mapT {K : PySem.W.Frag} {a : Addr} {xs ys : List V} {j : Nat} {te : TE} {vs : List Nat} {σ : L2.St} {H1 : Hp} {D : Addr} {Qd : Hp → Prop} (hx : SqT K H1 a xs) (hD : H1 D = none) (hl : ys.length = xs.length) (hz : xs.length ≤ sizeLine)
    (hw : ∀ x, wipe ((wipe σ vs).set j (some x)) vs = wipe σ vs)
    (he : ∀ (i : Nat) x y H', Ex H1 H' → xs[i]? = some x → ys[i]? = some y → ∀ R : VK, (∀ H2, Ex H' H2 → R y H2) → te ((wipe σ vs).set j (some x)) H' R)
    (k : ∀ H', Ex H1 H' → H' D = some (.lst ys) → Qd H') :
    ∃ W : Nat → Nat → Hp → Prop, (∃ m, W 0 m (upd H1 D (.lst []))) ∧ ∀ i m H, W i m H →
      ((Itt K a).stop i H ∧ Qd H) ∨ ((Itt K a).go i H ∧ ∃ Nx : Hp → Prop, (∀ H', Nx H' → ∃ m', m' < m ∧ W (i + 1) m' H') ∧ ∀ x H', (Itt K a).yld i H x H' → gName j x (wipe σ vs) H' fun σ2 H2 => wipe σ2 vs = wipe σ vs ∧ tYes σ2 H2 fun b H3 =>
        if b = true then te σ2 H3 fun y H4 => ∃ acc, H4 D = some (.lst acc) ∧ acc.length < sizeLine ∧ Nx (upd H4 D (.lst (acc ++ [y]))) else Nx H3) := by
  refine lc_tup (xs := xs) (fun i H' => Ex H1 H' ∧ H' D = some (.lst (ys.take i))) ⟨Evl.Ex.new hD, upd_same⟩ (fun i H' _ p => Evl.ex_t p.1 hx) (fun i x H' hi p => ?_) (fun H' p => k H' p.1 ?_)
  · have hi' : i < xs.length := (List.getElem?_eq_some_iff.mp hi).1
    have hy : ys[i]? = some (ys[i]'(by omega)) := List.getElem?_eq_getElem (by omega)
    refine ⟨hw x, ?_⟩
    show te ((wipe σ vs).set j (some x)) H' _
    refine he i x _ H' p.1 hi hy _ fun H2 e2 => ⟨ys.take i, e2 _ _ p.2, ?_, ?_⟩
    · rw [List.length_take]
      omega
    · refine ⟨Evl.Ex.mut (p.1.trans e2) hD, ?_⟩
      rw [upd_same, List.take_add_one, hy]
      rfl
  · have := p.2
    rw [List.take_of_length_le (by omega)] at this
    exact this
end My
namespace K35
open PySem L2 My
theorem nef {a b : V} (h : a = b) : (!decide (a = b)) = false := by
  rw [decide_eq_true h]
  rfl
def sp__law_led (K : PySem.W.Frag) : Sp := fun vs H Q _ => ∃ (a b : Addr) (sz ts : List Int) (x : Int), vs = [.ref a, .ref b, .int x] ∧ SqL K H a (sz.map V.int) ∧ SqL K H b (ts.map V.int) ∧ ts.length + 1 ≤ sz.length ∧ Evl.RetV (.int (led sz ts x)) H Q
def sp__law_is_effect (K : PySem.W.Frag) : Sp := fun vs H Q _ => ∃ (p a b : Addr) (sz ts : List Int), vs = [.ref p, .ref a, .ref b] ∧ H p = some (.tup (t3 (eff sz ts))) ∧ SqL K H a (sz.map V.int) ∧ SqL K H b (ts.map V.int) ∧ ts.length + 1 = sz.length ∧ (∀ n ∈ sz, 0 ≤ n) ∧ room0 sz ≤ 1000 ∧ Evl.RetV (.bl true) H Q
def sp__law_times (K : PySem.W.Frag) : Sp := fun vs H Q _ => ∃ (p : Addr) (e : Eff) (wd : Int), vs = [.ref p, .int wd] ∧ SqT K H p (t3 e) ∧ wd.natAbs < 2 ^ 200 ∧ e.1.natAbs < 2 ^ 400 ∧ e.2.1.natAbs < 2 ^ 400 ∧ e.2.2.natAbs < 2 ^ 400 ∧ New (.tup (t3 (mul wd e))) H Q
section
variable {P : Program} {w : World} {K : PySem.W.Frag} {mg : Str → Option Value} {base : Heap}
theorem ok__law_led (T : Txt K mg) : FnOk P w K mg base CX0 1 T.a__law_led T.d__law_led ["_law_sizes", "_law_turns_here", "_law_scroll"] (sp__law_led K) := by
  refine T.f__law_led.ok sc__law_led (fun vs H Q E h => ?_) (fun cdv A outer s H vs Q E hr h => ?_)
  · obtain ⟨a, b, sz, ts, x, rfl, _⟩ := h
    rfl
  · obtain ⟨a, b, sz, ts, x, rfl, ha, hb, hl, k⟩ := h
    refine ⟨_, (pss_cons (ps_for PassesOwn.never rfl (pi_enum (by rfl) T.z_enumerate (pa_cons (pv 1) pa_nil)) (pg_tup rfl (pgs_cons (pg_name (i := 3) sc__law_led.nd rfl (by first | exact Or.inl rfl | exact Or.inr rfl)) (pgs_cons (pg_name (i := 4) sc__law_led.nd rfl (by first | exact Or.inl rfl | exact Or.inr rfl)) pgs_nil))) (pss_one (ps_set (i := 2) sc__law_led.nd rfl (by first | exact Or.inl rfl | exact Or.inr rfl) (pe_callB (call_min2 rfl) (by rfl) T.z_min (by decide +kernel) (pa_cons (pe_ix ix_list (pv 0) (pe_op op_add (pv 3) pe_int) (fun _ _ => rfl)) (pa_cons (pe_callB (call_max2 rfl) (by rfl) T.z_max (by decide +kernel) (pa_cons pe_int (pa_cons (pe_callB (call_min2 rfl) (by rfl) T.z_min (by decide +kernel) (pa_cons (pe_ix ix_list (pv 0) (pv 3) (fun _ _ => rfl)) (pa_cons (pe_op op_add (pv 2) (pv 4)) pa_nil))) pa_nil))) pa_nil)))))) (pss_one (ps_ret (pv 2)))), ?_⟩
    refine ⟨_, rfl, b, _, rfl, hb, for_it (walk_enum (K := K) (a := b) (xs := ts.map V.int)) (fun i σ H' => ∃ v1 v2, σ = [some (.ref a), some (.ref b), some (.int (ledN sz ts x i)), v1, v2] ∧ Ex H H') ⟨_, _, rfl, Evl.Ex.refl _⟩ (fun i σ H' _ ⟨_, _, _, e⟩ => Evl.ex_l e hb) ?_ ?_⟩
    · rintro i x0 σ H' H'' hi ⟨v1, v2, rfl, e⟩ ⟨q, y1, y2, rfl, nq, rfl, ey1, ey2⟩
      obtain ⟨t, ht, rfl⟩ := mapI_get ey2
      cases ey1
      have e2 : Ex H (upd H' q (.tup [.int (i : Nat), .int t])) := e.trans (Evl.Ex.new nq)
      have hp : upd H' q (.tup [.int (i : Nat), .int t]) q = some (.tup [.int (i : Nat), .int t]) := upd_same
      generalize upd H' q (.tup [.int (i : Nat), .int t]) = H2 at e2 hp ⊢
      refine ⟨_, _, rfl, sqT hp, rfl, _, _, rfl, _, _, rfl, rfl, ?_⟩
      rw [List.length_map] at hi
      have hc : sz[i]? = some (sz[i]'(by omega)) := List.getElem?_eq_getElem (by omega)
      have hc' : sz[i + 1]? = some (sz[i + 1]'(by omega)) := List.getElem?_eq_getElem (by omega)
      have ha2 := Evl.ex_l e2 ha
      refine ⟨_, rfl, _, rfl, _, _, rfl, rfl, _, _, _, _, rfl, rfl, ha2, at_of (j := i + 1) (by omega) (by rw [List.getElem?_map, hc']; rfl), _, rfl, _, rfl, _, _, _, _, rfl, rfl, ha2, at_of (j := i) rfl (by rw [List.getElem?_map, hc]; rfl), _, rfl, _, rfl, _, _, rfl, rfl, _, _, rfl, _, _, rfl, _, _, rfl, ?_⟩
      refine ⟨some (.int i), some (.int t), ?_, e2⟩
      show _ = [_, _, some (V.int (mn (sz.getD (i + 1) 0) (mx 0 (mn (sz.getD i 0) (ledN sz ts x i + ts.getD i 0))))), _, _]
      rw [getD_of ht, getD_of hc, getD_of hc']
      rfl
    · rintro σ H' ⟨v1, v2, rfl, e⟩
      refine ⟨_, rfl, ?_⟩
      rw [List.length_map]
      exact k _ e
theorem ok__law_times (T : Txt K mg) : FnOk P w K mg base CX0 1 T.a__law_times T.d__law_times ["_law_effect", "_law_width"] (sp__law_times K) := by
  refine T.f__law_times.ok sc__law_times (fun vs H Q E h => ?_) (fun cdv A outer s H vs Q E hr h => ?_)
  · obtain ⟨p, e, wd, rfl, _⟩ := h
    rfl
  · obtain ⟨p, e, wd, rfl, hp, bw, b1, b2, b3, k⟩ := h
    refine ⟨_, (pss_one (ps_ret (pe_callTy call_tupleG (by rfl) T.z_tuple (by decide +kernel) (pa_cons (pe_lc (own := [("_law_number", 2)]) (g := gName 2) (by rfl) sc__law_times.nd (pi_tup (pv 0)) (blkOk_by (own := [("_law_number", 2)]) (N := ["_law_effect", "_law_width", "_law_number"]) (sc := defScope s__law_times) (by decide +kernel)) (fun _ _ _ _ _ => (pg_name (i := 2) sc__law_times.nd rfl (by first | exact Or.inl rfl | exact Or.inr rfl))) (fun _ _ _ _ _ => pts_nil) (fun _ _ _ _ _ => (pe_op op_mulW (pv 1) (pv 2)))) pa_nil)))), ?_⟩
    refine ⟨_, rfl, p, rfl, ⟨_, hp⟩, fun D hD => lc_mapT (xs := t3 e) (ys := t3 (mul wd e)) hp hD rfl (by show 3 ≤ sizeLine; decide) (fun x => rfl) ?_ ?_⟩
    · intro i x y H2 e2 hx hy R' kR
      match i, hx, hy with
      | 0, hx, hy =>
        cases hx
        cases hy
        exact ⟨_, rfl, _, rfl, _, _, rfl, rfl, wide_mul bw b1 (by decide) (by decide) (by decide), kR _ (Evl.Ex.refl _)⟩
      | 1, hx, hy =>
        cases hx
        cases hy
        exact ⟨_, rfl, _, rfl, _, _, rfl, rfl, wide_mul bw b2 (by decide) (by decide) (by decide), kR _ (Evl.Ex.refl _)⟩
      | 2, hx, hy =>
        cases hx
        cases hy
        exact ⟨_, rfl, _, rfl, _, _, rfl, rfl, wide_mul bw b3 (by decide) (by decide) (by decide), kR _ (Evl.Ex.refl _)⟩
    · intro H2 e2 h2
      refine ⟨D, _, rfl, sqI h2, fun q H3 n3 e3 h3 => ?_⟩
      exact k q H3 (Evl.fresh_back e2 n3) (e2.trans e3) h3
theorem ok__law_is_effect (T : Txt K mg) : FnOk P w K mg base CX0 2 T.a__law_is_effect T.d__law_is_effect ["_law_told", "_law_sizes", "_law_turns_here"] (sp__law_is_effect K) := by
  refine T.f__law_is_effect.ok sc__law_is_effect (fun vs H Q E h => ?_) (fun cdv A outer s H vs Q E hr h => ?_)
  · obtain ⟨p, a, b, sz, ts, rfl, _⟩ := h
    rfl
  · obtain ⟨p, a, b, sz, ts, rfl, hp, ha, hb, hl, nn, hr0, k⟩ := h
    refine ⟨_, (pss_cons (ps_if (PW.pt (pw_or (pt_not (pt_val (pe_callB call_isi (by rfl) T.z_isinstance (by decide +kernel) (pa_cons (pv 0) (pa_cons (pe_bltn (v := .ty "tuple") (by rfl) T.z_tuple (by decide +kernel) rfl) pa_nil))))) (pw_or1 (pt_cmpR op_ne (pe_callB call_len_seq (by rfl) T.z_len PySem.boot_len (pa_cons (pv 0) pa_nil)) pe_int (nomark _))))) (pss_one (ps_ret pe_bl)) pss_nil) (pss_cons (ps_asg (pv 0) (pg_tup rfl (pgs_cons (pg_name (i := 3) sc__law_is_effect.nd rfl (by first | exact Or.inl rfl | exact Or.inr rfl)) (pgs_cons (pg_name (i := 4) sc__law_is_effect.nd rfl (by first | exact Or.inl rfl | exact Or.inr rfl)) (pgs_cons (pg_name (i := 5) sc__law_is_effect.nd rfl (by first | exact Or.inl rfl | exact Or.inr rfl)) pgs_nil))))) (pss_cons (ps_setLc (i := 6) (own := [("_law_scroll", 7)]) (g := gName 7) (by rfl) sc__law_is_effect.nd rfl rfl (sw_true rfl rfl rfl (by decide +kernel)) (pi_range1 (by rfl) T.z_range (pa_cons (pe_op op_add (pe_ix ix_list (pv 1) pe_int (fun _ _ => rfl)) pe_int) pa_nil)) (blkOk_by (own := [("_law_scroll", 7)]) (N := ["_law_told", "_law_sizes", "_law_turns_here", "_law_shift", "_law_low", "_law_high", "_law_ends", "_law_scroll"]) (sc := defScope s__law_is_effect) (by decide +kernel)) (fun _ _ _ _ _ => (pg_name (i := 7) sc__law_is_effect.nd rfl (by first | exact Or.inl rfl | exact Or.inr rfl))) (fun _ _ _ _ _ => pts_nil) (fun _ _ _ _ _ => (pe_call (ok__law_led T) (hr.mono (by decide)) (by rfl) T.g__law_led T.f__law_led.kp (b__law_led T) .nil pass0 (pa_cons (pv 1) (pa_cons (pv 2) (pa_cons (pv 7) pa_nil)))))) (pss_cons (ps_if (PW.pt (pw_or (pt_cmpR op_ne (pv 4) (pe_ix ix_list (pv 6) pe_int (fun _ _ => rfl)) (nomark _)) (pw_or (pt_cmpR op_ne (pv 5) (pe_ix ix_list (pv 6) (pe_un un_neg pe_int) (fun _ _ => rfl)) (nomark _)) (pw_or1 (pt_cmpR op_ne (pv 3) (pe_cut (pe_ifExp (pt_cmpR op_lt (pv 4) (pv 5) (nomark _)) (pe_callB (cr_sum rfl) (by rfl) T.z_sum (by decide +kernel) (pa_cons (pv 2) pa_nil)) pe_int)) (nomark _)))))) (pss_one (ps_ret pe_bl)) pss_nil) (pss_one (ps_ret (pe_cmpR (op_eqD hr.units) (pv 6) (pe_lc (own := [("_law_scroll", 7)]) (g := gName 7) (by rfl) sc__law_is_effect.nd (pi_range1 (by rfl) T.z_range (pa_cons (pe_op op_add (pe_ix ix_list (pv 1) pe_int (fun _ _ => rfl)) pe_int) pa_nil)) (blkOk_by (own := [("_law_scroll", 7)]) (N := ["_law_told", "_law_sizes", "_law_turns_here", "_law_shift", "_law_low", "_law_high", "_law_ends", "_law_scroll"]) (sc := defScope s__law_is_effect) (by decide +kernel)) (fun _ _ _ _ _ => (pg_name (i := 7) sc__law_is_effect.nd rfl (by first | exact Or.inl rfl | exact Or.inr rfl))) (fun _ _ _ _ _ => pts_nil) (fun _ _ _ _ _ => (pe_callB (call_max2 rfl) (by rfl) T.z_max (by decide +kernel) (pa_cons (pv 4) (pa_cons (pe_callB (call_min2 rfl) (by rfl) T.z_min (by decide +kernel) (pa_cons (pv 5) (pa_cons (pe_op op_add (pv 7) (pv 3)) pa_nil))) pa_nil))))) (nomark _)))))))), ?_⟩
    have ng := nn_getD nn
    have r0 : 0 ≤ room0 sz := ng 0
    have hm : ∃ M : Nat, ((room0 sz + 1).toNat) = M + 1 ∧ ((M : Nat) : Int) = room0 sz := ⟨(room0 sz).toNat, by omega, by omega⟩
    obtain ⟨M, eM, eM2⟩ := hm
    have hs0 : sz[0]? = some (room0 sz) := by
      match sz, hl with
      | s0 :: sr, _ => rfl
    have hat0 : atI (sz.map V.int) 0 = some (.int (room0 sz)) := at_of (j := 0) rfl (by rw [List.getElem?_map, hs0]; rfl)
    -- if not isinstance(..) or len(..) != 3
    refine ⟨_, rfl, _, _, _, _, _, rfl, .ty _, .base (.tup hp), kit_ty (r := true) (by decide +kernel), _, rfl, ?_⟩
    refine ifF rfl ?_
    refine ⟨_, rfl, _, _, rfl, .inr (sqT hp), rfl, _, rfl, ifF rfl ?_⟩
    refine ⟨_, rfl, _, _, rfl, sqT hp, rfl, _, _, rfl, _, _, rfl, _, _, rfl, rfl, ?_⟩
    -- _law_ends
    refine ⟨_, rfl, _, _, _, _, rfl, rfl, ha, hat0, _, _, rfl, rfl, _, rfl, (by omega), (by omega), fun D hD => lc_mapR (lo := 0) (n := (room0 sz + 1).toNat) (ys := ((List.range (M + 1)).map fun k => led sz ts (k : Nat)).map V.int) hD ?_ ?_ (fun x => rfl) ?_ ?_⟩
    · rw [List.length_map, List.length_map, List.length_range, eM]
    · rw [eM]
      exact Nat.le_trans (show M + 1 ≤ 1001 by omega) (by decide)
    · intro i y H' e' hi hy R' kR
      obtain ⟨t, ht, rfl⟩ := mapI_get hy
      rw [List.getElem?_map, List.getElem?_range (by omega)] at ht
      have et : led sz ts (i : Nat) = t := Option.some.inj ht
      subst et
      refine ⟨_, rfl, _, rfl, _, rfl, a, b, sz, ts, _, rfl, Evl.ex_l e' ha, Evl.ex_l e' hb, by omega, fun H2 e2 => ?_⟩
      have := kR H2 e2
      rw [Int.zero_add]
      exact this
    intro H1 e1 h1
    have ha1 := Evl.ex_l e1 ha
    have hb1 := Evl.ex_l e1 hb
    have f0 : atI (((List.range (M + 1)).map fun k => led sz ts (k : Nat)).map V.int) 0 = some (.int (led sz ts 0)) := by
      refine at_of (j := 0) rfl ?_
      rw [List.getElem?_map, List.getElem?_map, List.getElem?_range (by omega)]
      rfl
    have f1 : atI (((List.range (M + 1)).map fun k => led sz ts (k : Nat)).map V.int) (-1) = some (.int (led sz ts (room0 sz))) := by
      rw [List.range_succ, List.map_append, List.map_append, ← eM2]
      exact atI_last _ _
    refine ⟨_, rfl, _, rfl, _, _, _, _, rfl, rfl, sqI h1, f0, rfl, _, rfl, ifF (nef rfl) ?_⟩
    refine ⟨_, rfl, _, rfl, _, rfl, _, _, _, _, rfl, rfl, sqI h1, f1, rfl, _, rfl, ifF (nef rfl) ?_⟩
    refine ⟨_, rfl, fun v H' => H' = H1 ∧ v = .int (eff sz ts).1, ?_, ?_⟩
    · refine ⟨_, rfl, _, rfl, _, _, rfl, rfl, _, rfl, ?_⟩
      refine ifB (fun c => ?_) (fun c => ?_)
      · refine ⟨_, rfl, b, ts, rfl, hb1, rfl, ?_⟩
        have : (eff sz ts).1 = ts.sum := if_pos (of_decide_eq_true c)
        rw [this]
      · refine ⟨rfl, ?_⟩
        have : (eff sz ts).1 = 0 := if_neg (of_decide_eq_false c)
        rw [this]
    rintro v H' ⟨rfl, rfl⟩
    refine ⟨rfl, _, rfl, ifF (nef rfl) ?_⟩
    -- return
    refine ⟨_, rfl, _, rfl, _, _, _, _, rfl, rfl, ha1, hat0, _, _, rfl, rfl, _, rfl, (by omega), (by omega), fun D2 hD2 => lc_mapR (lo := 0) (n := (room0 sz + 1).toNat) (ys := ((List.range (M + 1)).map fun k => led sz ts (k : Nat)).map V.int) hD2 ?_ ?_ (fun x => rfl) ?_ ?_⟩
    · rw [List.length_map, List.length_map, List.length_range, eM]
    · rw [eM]
      exact Nat.le_trans (show M + 1 ≤ 1001 by omega) (by decide)
    · intro i y H2 e2 hi hy R' kR
      obtain ⟨t, ht, rfl⟩ := mapI_get hy
      rw [List.getElem?_map, List.getElem?_range (by omega)] at ht
      have et : led sz ts (i : Nat) = t := Option.some.inj ht
      subst et
      refine ⟨_, rfl, _, rfl, _, rfl, _, rfl, _, _, rfl, rfl, _, _, rfl, _, _, rfl, ?_⟩
      have := kR H2 (Evl.Ex.refl _)
      rw [eff_all ng (show (0 : Int) ≤ ((i : Nat) : Int) by omega) (by omega)] at this
      rw [Int.zero_add]
      exact this
    intro H2 e2 h2
    refine eqI_ (sqI (e2 _ _ h1)) (sqI h2) ?_
    rw [decide_eq_true rfl]
    exact k _ (e1.trans e2)
end
end K35
set_option Elab.async false
set_option linter.all false
set_option maxRecDepth 100000
set_option maxHeartbeats 4000000
namespace K35
open PySem L2 My
theorem ne3 {K : PySem.W.Frag} {H : Hp} {a b : Addr} {S S' : Eff} {Q : VK} (h1 : SqT K H a (t3 S)) (h2 : SqT K H b (t3 S')) (e : S = S') (q : Q (.bl false) H) : rNeD K (.ref a) (.ref b) H Q := by
  subst e
  refine neE (goodT goodI) (by decide) (dpT (ns := [S.1, S.2.1, S.2.2]) h1) (dpT (ns := [S.1, S.2.1, S.2.2]) h2) ?_
  rw [decide_eq_true rfl]
  exact q
theorem eq3 {K : PySem.W.Frag} {H : Hp} {a b : Addr} {S S' : Eff} {Q : VK} (h1 : SqT K H a (t3 S)) (h2 : SqT K H b (t3 S')) (e : S = S') (q : Q (.bl true) H) : rEqD K (.ref a) (.ref b) H Q := by
  subst e
  refine eqE (goodT goodI) (by decide) (dpT (ns := [S.1, S.2.1, S.2.2]) h1) (dpT (ns := [S.1, S.2.1, S.2.2]) h2) ?_
  rw [decide_eq_true rfl]
  exact q
theorem valid_bd {size : Int} {e : Eff} (v : Valid size e) (h : size < 2 ^ 300) : e.1.natAbs < 2 ^ 300 ∧ e.2.1.natAbs < 2 ^ 300 ∧ e.2.2.natAbs < 2 ^ 300 := by
  obtain ⟨v1, v2, v3, v4, v5⟩ := v
  omega
theorem repl_one (k : Nat) (c : Int) : (List.replicate k [V.int c]).flatten = (List.replicate k c).map V.int := by
  induction k with
  | zero => rfl
  | succ k ih =>
    rw [List.replicate_succ, List.flatten_cons, ih, List.replicate_succ, List.map_cons]
    rfl
theorem repl_list (k : Nat) (ts : List Int) : (List.replicate k (ts.map V.int)).flatten = (reps ts k).map V.int := by
  induction k with
  | zero => rfl
  | succ k ih =>
    unfold reps
    rw [List.replicate_succ, List.flatten_cons, ih, List.replicate_succ, List.flatten_cons, List.map_append]
    rfl
theorem repl_nn {size : Int} (h : 0 ≤ size) (k : Nat) : ∀ n ∈ List.replicate k size, 0 ≤ n := fun n hn => by
  rw [List.eq_of_mem_replicate hn]
  exact h
theorem reps_len (ts : List Int) : ∀ n, (reps ts n).length = ts.length * n
  | 0 => rfl
  | n + 1 => by
    unfold reps
    rw [List.replicate_succ, List.flatten_cons, List.length_append]
    have := reps_len ts n
    unfold reps at this
    rw [this, Nat.mul_succ]
    omega
def sp__law_single_right : Sp := fun vs H Q _ => ∃ (size : Int) (a b : Addr) (ts us : List Int) (wd : Int), vs = [.int size, .ref a, .ref b, .int wd] ∧ H a = some (.lst (ts.map V.int)) ∧ H b = some (.lst (us.map V.int)) ∧ 0 ≤ size ∧ size ≤ 100 ∧ 0 < wd ∧ wd < 2 ^ 100 ∧
  ts.length ≤ 60 ∧ us.length ≤ 60 ∧ (∀ t ∈ ts, -100 ≤ t ∧ t ≤ 100) ∧ Evl.RetV (.bl true) H Q
section
variable {w : World} {K : PySem.W.Frag} {mg : Str → Option Value} {base : Heap}
theorem ok__law_single_right (T : Txt K mg) : FnOk PR w K mg base CX0 6 T.a__law_single_right T.d__law_single_right ["_law_size", "_law_one", "_law_other", "_law_width"] sp__law_single_right := by
  refine T.f__law_single_right.ok sc__law_single_right (fun vs H Q E h => ?_) (fun cdv A outer s H vs Q E hr h => ?_)
  · obtain ⟨size, a, b, ts, us, wd, rfl, _⟩ := h
    rfl
  · obtain ⟨size, a, b, ts, us, wd, rfl, ha, hb, z0, z1, w0, w1, l1, l2, bd, k⟩ := h
    refine ⟨_, (pss_cons (ps_par (by rfl) sc__law_single_right.nd rfl rfl (by decide) rfl rfl (i := 4) (j := 5) (pa_cons (pe_call (ok_effect_on T) (hr.mono (by decide)) (by rfl) T.g_effect_on T.f_effect_on.kp (b_effect_on T) .nil passL (pa_cons (pv 0) (pa_cons (pv 1) pa_nil))) (pa_cons (pe_callK0 (ok_effect_on T) (hr.mono (by decide)) (by rfl) T.g_effect_on T.f_effect_on.kp (kb_effect_on_0_turns_size T) passL (pk_cons (pv 2) (pk_cons (pv 0) pk_nil))) pa_nil)) (by rfl)) (pss_cons (ps_if (pt_not (pt_val (pe_call (ok__law_is_effect T) (hr.mono (by decide)) (by rfl) T.g__law_is_effect T.f__law_is_effect.kp (b__law_is_effect T) .nil pass0 (pa_cons (pv 4) (pa_cons (pe_op op_repG (pe_lstG (pa_cons (pv 0) pa_nil)) (pe_op op_add (pe_callB call_len_seq (by rfl) T.z_len PySem.boot_len (pa_cons (pv 1) pa_nil)) pe_int)) (pa_cons (pv 1) pa_nil)))))) (pss_one (ps_ret pe_bl)) pss_nil) (pss_cons (ps_if (pt_not (pt_val (pe_call (ok__law_is_effect T) (hr.mono (by decide)) (by rfl) T.g__law_is_effect T.f__law_is_effect.kp (b__law_is_effect T) .nil pass0 (pa_cons (pv 5) (pa_cons (pe_op op_repG (pe_lstG (pa_cons (pv 0) pa_nil)) (pe_op op_add (pe_callB call_len_seq (by rfl) T.z_len PySem.boot_len (pa_cons (pv 2) pa_nil)) pe_int)) (pa_cons (pv 2) pa_nil)))))) (pss_one (ps_ret pe_bl)) pss_nil) (pss_cons (ps_set (i := 6) sc__law_single_right.nd rfl (by first | exact Or.inl rfl | exact Or.inr rfl) (pe_call (ok_joined_effect T) (hr.mono (by decide)) (by rfl) T.g_joined_effect T.f_joined_effect.kp (b_joined_effect T) .nil passL (pa_cons (pv 0) (pa_cons (pv 4) (pa_cons (pv 5) pa_nil))))) (pss_cons (ps_if (pt_not (pt_val (pe_call (ok__law_is_effect T) (hr.mono (by decide)) (by rfl) T.g__law_is_effect T.f__law_is_effect.kp (b__law_is_effect T) .nil pass0 (pa_cons (pv 6) (pa_cons (pe_op op_repG (pe_lstG (pa_cons (pv 0) pa_nil)) (pe_op op_add (pe_callB call_len_seq (by rfl) T.z_len PySem.boot_len (pa_cons (pe_op op_catG (pv 1) (pv 2)) pa_nil)) pe_int)) (pa_cons (pe_op op_catG (pv 1) (pv 2)) pa_nil)))))) (pss_one (ps_ret pe_bl)) pss_nil) (pss_cons (ps_if (pt_cmpR (op_neD hr.units) (pe_callK0 (ok_joined_effect T) (hr.mono (by decide)) (by rfl) T.g_joined_effect T.f_joined_effect.kp (kb_joined_effect_0_other_one_size T) passL (pk_cons (pv 5) (pk_cons (pv 4) (pk_cons (pv 0) pk_nil)))) (pv 6) (nomark _)) (pss_one (ps_ret pe_bl)) pss_nil) (pss_cons (ps_if (pt_cmpR (op_neD hr.units) (pe_call (ok_effect_on T) (hr.mono (by decide)) (by rfl) T.g_effect_on T.f_effect_on.kp (b_effect_on T) .nil passL (pa_cons (pe_op op_mulW (pv 3) (pv 0)) (pa_cons (pe_lc (own := [("_law_turn", 7)]) (g := gName 7) (by rfl) sc__law_single_right.nd (pi_list (pv 1)) (blkOk_by (own := [("_law_turn", 7)]) (N := ["_law_size", "_law_one", "_law_other", "_law_width", "_law_first", "_law_second", "_law_both", "_law_turn"]) (sc := defScope s__law_single_right) (by decide +kernel)) (fun _ _ _ _ _ => (pg_name (i := 7) sc__law_single_right.nd rfl (by first | exact Or.inl rfl | exact Or.inr rfl))) (fun _ _ _ _ _ => pts_nil) (fun _ _ _ _ _ => (pe_op op_mulW (pv 3) (pv 7)))) pa_nil))) (pe_call (ok__law_times T) (hr.mono (by decide)) (by rfl) T.g__law_times T.f__law_times.kp (b__law_times T) .nil pass0 (pa_cons (pv 4) (pa_cons (pv 3) pa_nil))) (nomark _)) (pss_one (ps_ret pe_bl)) pss_nil) (pss_one (ps_ret (pe_cmpR (op_eqD hr.units) (pe_call (ok_joined_effect T) (hr.mono (by decide)) (by rfl) T.g_joined_effect T.f_joined_effect.kp (b_joined_effect T) .nil passL (pa_cons (pe_op op_mulW (pv 3) (pv 0)) (pa_cons (pe_call (ok__law_times T) (hr.mono (by decide)) (by rfl) T.g__law_times T.f__law_times.kp (b__law_times T) .nil pass0 (pa_cons (pv 4) (pa_cons (pv 3) pa_nil))) (pa_cons (pe_call (ok__law_times T) (hr.mono (by decide)) (by rfl) T.g__law_times T.f__law_times.kp (b__law_times T) .nil pass0 (pa_cons (pv 5) (pa_cons (pv 3) pa_nil))) pa_nil)))) (pe_call (ok__law_times T) (hr.mono (by decide)) (by rfl) T.g__law_times T.f__law_times.kp (b__law_times T) .nil pass0 (pa_cons (pv 6) (pa_cons (pv 3) pa_nil))) (nomark _))))))))))), ?_⟩
    have bm : wd.natAbs < 2 ^ 100 := by omega
    have bm2 : wd.natAbs < 2 ^ 200 := by omega
    have v1 := ein_valid z0 ts
    have v2 := ein_valid z0 us
    have v3 := ein_valid z0 (ts ++ us)
    have zb : size < 2 ^ 300 := by omega
    have sR : ∀ m : Nat, m ≤ 200 → ∀ h : m ≤ 200, 1 * m ≤ sizeLine := fun m hm _ => Nat.le_trans (show 1 * m ≤ 200 by omega) (by decide)
    have bds : ∀ e : Eff, Valid size e → e.1.natAbs < 2 ^ 400 ∧ e.2.1.natAbs < 2 ^ 400 ∧ e.2.2.natAbs < 2 ^ 400 := fun e v => by
      obtain ⟨q1, q2, q3⟩ := valid_bd v zb
      omega
    -- _law_first, _law_second
    refine ⟨_, rfl, _, rfl, size, a, ts, rfl, sqI ha, fun _ p1 H1 n1 e1 h1 => ?_, fun q => absurd q (by omega)⟩
    refine ⟨_, rfl, _, rfl, size, b, us, rfl, sqI (e1 _ _ hb), fun _ p2 H2 n2 e2 h2 => ?_, fun q => absurd q (by omega)⟩
    refine ⟨_, _, rfl, ?_⟩
    have ha2 := e2 _ _ (e1 _ _ ha)
    have hb2 := e2 _ _ (e1 _ _ hb)
    -- the first
    refine ⟨_, rfl, _, rfl, (by show 1 ≤ sizeLine; decide), fun p3 H3 n3 e3 h3 => ?_⟩
    refine ⟨_, rfl, _, _, rfl, .inl (sqI (e3 _ _ ha2)), _, _, rfl, rfl, _, _, _, rfl, rfl, h3, (by rw [List.length_map]; omega), (by rw [List.length_map]; omega), ?_, fun p4 H4 n4 e4 h4 => ?_⟩
    · rw [List.length_map]
      exact sR _ (by omega) (by omega)
    rw [List.length_map, repl_one, show ((ts.length : Int) + 1).toNat = ts.length + 1 by omega] at h4
    have e24 := e3.trans e4
    refine ⟨_, rfl, p1, p4, a, List.replicate (ts.length + 1) size, ts, rfl, ?_, sqI h4, sqI (e24 _ _ ha2), by simp, repl_nn z0 _, ?_, fun H5 e5 => ?_⟩
    · rw [← ein_eff z0]
      exact e24 _ _ (e2 _ _ h1)
    · rw [show room0 (List.replicate (ts.length + 1) size) = size from rep_getD size _ 0 (by omega)]
      omega
    refine ⟨_, rfl, iteF ?_⟩
    -- the second
    have e25 := e24.trans e5
    refine ⟨_, rfl, _, rfl, (by show 1 ≤ sizeLine; decide), fun p6 H6 n6 e6 h6 => ?_⟩
    refine ⟨_, rfl, _, _, rfl, .inl (sqI (e6 _ _ (e25 _ _ hb2))), _, _, rfl, rfl, _, _, _, rfl, rfl, h6, (by rw [List.length_map]; omega), (by rw [List.length_map]; omega), ?_, fun p7 H7 n7 e7 h7 => ?_⟩
    · rw [List.length_map]
      exact sR _ (by omega) (by omega)
    rw [List.length_map, repl_one, show ((us.length : Int) + 1).toNat = us.length + 1 by omega] at h7
    have e27 := e25.trans (e6.trans e7)
    refine ⟨_, rfl, p2, p7, b, List.replicate (us.length + 1) size, us, rfl, ?_, sqI h7, sqI (e27 _ _ hb2), by simp, repl_nn z0 _, ?_, fun H8 e8 => ?_⟩
    · rw [← ein_eff z0]
      exact e27 _ _ h2
    · rw [show room0 (List.replicate (us.length + 1) size) = size from rep_getD size _ 0 (by omega)]
      omega
    refine ⟨_, rfl, iteF ?_⟩
    have e28 := e27.trans e8
    have f8 := e28 _ _ (e2 _ _ h1)
    have g8 := e28 _ _ h2
    have ha8 := e28 _ _ ha2
    have hb8 := e28 _ _ hb2
    -- both
    refine ⟨_, rfl, _, rfl, _, rfl, size, p1, p2, ein size ts, ein size us, rfl, sqT f8, sqT g8, fun _ _ _ p9 H9 n9 e9 h9 => ?_, fun q => absurd q (by omega), fun _ q => absurd v1 q, fun _ _ q => absurd v2 q⟩
    rw [join_ein z0] at h9
    refine ⟨_, rfl, _, rfl, (by show 1 ≤ sizeLine; decide), fun q1 G1 m1 f1 g1 => ?_⟩
    have e91 := e9.trans f1
    refine ⟨_, rfl, _, rfl, _, _, _, _, rfl, rfl, e91 _ _ ha8, e91 _ _ hb8, ?_, fun q2 G2 m2 f2 g2 => ?_⟩
    · rw [List.length_map, List.length_map]
      exact Nat.le_trans (show ts.length + us.length ≤ 120 by omega) (by decide)
    rw [← List.map_append] at g2
    have ll : (ts ++ us).length ≤ 120 := by rw [List.length_append]; omega
    refine ⟨_, _, rfl, .inl (sqI g2), _, _, rfl, rfl, _, _, _, rfl, rfl, f2 _ _ g1, (by rw [List.length_map]; omega), (by rw [List.length_map]; omega), ?_, fun q3 G3 m3 f3 g3 => ?_⟩
    · rw [List.length_map]
      exact sR _ (by omega) (by omega)
    rw [List.length_map, repl_one, show (((ts ++ us).length : Int) + 1).toNat = (ts ++ us).length + 1 by omega] at g3
    have e93 := e91.trans (f2.trans f3)
    refine ⟨_, rfl, _, rfl, _, _, _, _, rfl, rfl, e93 _ _ ha8, e93 _ _ hb8, ?_, fun q4 G4 m4 f4 g4 => ?_⟩
    · rw [List.length_map, List.length_map]
      exact Nat.le_trans (show ts.length + us.length ≤ 120 by omega) (by decide)
    rw [← List.map_append] at g4
    have e94 := f1.trans (f2.trans (f3.trans f4))
    refine ⟨p9, q3, q4, List.replicate ((ts ++ us).length + 1) size, ts ++ us, rfl, ?_, sqI (f4 _ _ g3), sqI g4, by simp, repl_nn z0 _, ?_, fun G5 f5 => ?_⟩
    · rw [← ein_eff z0]
      exact e94 _ _ h9
    · rw [show room0 (List.replicate ((ts ++ us).length + 1) size) = size from rep_getD size _ 0 (by omega)]
      omega
    refine ⟨_, rfl, iteF ?_⟩
    have e95 := e94.trans f5
    have e85 := e9.trans e95
    -- by name
    refine ⟨_, rfl, _, rfl, _, rfl, size, p1, p2, ein size ts, ein size us, rfl, sqT (e85 _ _ f8), sqT (e85 _ _ g8), fun _ _ _ q6 G6 m6 f6 g6 => ?_, fun q => absurd q (by omega), fun _ q => absurd v1 q, fun _ _ q => absurd v2 q⟩
    refine ⟨_, rfl, ne3 (sqT g6) (sqT (f6 _ _ (e95 _ _ h9))) (join_ein z0 ts us) ⟨_, rfl, ifF rfl ?_⟩⟩
    have e86 := e85.trans f6
    have ha6 := e86 _ _ ha8
    -- so many times as great
    have hz : (ts.map V.int).length ≤ sizeLine := by
      rw [List.length_map]
      exact Nat.le_trans l1 (by decide)
    refine ⟨_, rfl, _, rfl, _, _, rfl, rfl, wide_mul (b := 10) bm (by omega) (by decide) (by decide) (by decide), _, rfl, a, rfl, ⟨_, sqI ha6⟩, fun D hD => lc_mapL (xs := ts.map V.int) (ys := (ts.map (wd * ·)).map V.int) (sqI ha6) hD (by simp) hz (fun x => rfl) ?_ ?_⟩
    · intro i x y H2 e2 hx hy R' kR
      obtain ⟨t, ht, rfl⟩ := mapI_get hx
      obtain ⟨t', ht', rfl⟩ := mapI_get hy
      rw [List.getElem?_map, ht] at ht'
      have et : t' = wd * t := (Option.some.inj ht').symm
      subst et
      have hbd := bd t (List.mem_of_getElem? ht)
      exact ⟨_, rfl, _, rfl, _, _, rfl, rfl, wide_mul (b := 10) bm (by omega) (by decide) (by decide) (by decide), kR _ (Evl.Ex.refl _)⟩
    intro G7 f7 g7
    have wz : 0 ≤ wd * size := Int.mul_nonneg (by omega) z0
    refine ⟨wd * size, D, ts.map (wd * ·), rfl, sqI g7, fun _ q8 G8 m8 f8' g8' => ?_, fun q => absurd q (by omega)⟩
    rw [ein_mul w0 z0] at g8'
    have e88 := e86.trans (f7.trans f8')
    obtain ⟨b1, b2, b3⟩ := bds _ v1
    obtain ⟨b4, b5, b6⟩ := bds _ v2
    obtain ⟨b7, b8, b9⟩ := bds _ v3
    refine ⟨_, rfl, _, rfl, p1, ein size ts, wd, rfl, sqT (e88 _ _ f8), bm2, b1, b2, b3, fun q9 G9 m9 f9 g9 => ?_⟩
    refine ne3 (sqT (f9 _ _ g8')) (sqT g9) rfl ⟨_, rfl, ifF rfl ?_⟩
    have e89 := e88.trans f9
    have e99 : Ex H9 G9 := e95.trans (f6.trans (f7.trans (f8'.trans f9)))
    -- the last
    refine ⟨_, rfl, _, rfl, _, _, rfl, rfl, wide_mul (b := 10) bm (by omega) (by decide) (by decide) (by decide), _, rfl, _, rfl, p1, ein size ts, wd, rfl, sqT (e89 _ _ f8), bm2, b1, b2, b3, fun r1 F1 k1 d1 c1 => ?_⟩
    refine ⟨_, rfl, _, rfl, p2, ein size us, wd, rfl, sqT (d1 _ _ (e89 _ _ g8)), bm2, b4, b5, b6, fun r2 F2 k2 d2 c2 => ?_⟩
    refine ⟨wd * size, r1, r2, mul wd (ein size ts), mul wd (ein size us), rfl, sqT (d2 _ _ c1), sqT c2, fun _ _ _ r3 F3 k3 d3 c3 => ?_, fun q => absurd q (by omega), fun _ q => absurd (valid_mul w0 v1) q, fun _ _ q => absurd (valid_mul w0 v2) q⟩
    rw [join_mul w0, join_ein z0] at c3
    refine ⟨_, rfl, _, rfl, p9, ein size (ts ++ us), wd, rfl, sqT (d3 _ _ (d2 _ _ (d1 _ _ (e99 _ _ h9)))), bm2, b7, b8, b9, fun r4 F4 k4 d4 c4 => ?_⟩
    refine eq3 (sqT (d4 _ _ c3)) (sqT c4) rfl ?_
    exact k _ (e1.trans (e2.trans (e28.trans (e89.trans (d1.trans (d2.trans (d3.trans d4)))))))
end
end K35
set_option Elab.async false
set_option linter.all false
set_option maxRecDepth 100000
set_option maxHeartbeats 4000000
namespace K35
open PySem L2 My
theorem rep_add0 {size : Int} (h : 0 ≤ size) {e : Eff} (v : Valid size e) {a b : Int} (ha : 0 ≤ a) (hb : 1 ≤ b) : join (rep size e a) (rep size e b) = rep size e (a + b) := by
  by_cases c : a = 0
  · subst c
    rw [rep_zero h, join_id h (rep_valid h v (by omega)), Int.zero_add]
  · exact rep_add v (by omega) hb
theorem half_step {left pw d n r : Int} (hr : r = left % 2) (e : d + left * pw = n) : d + r * pw + left / 2 * (pw + pw) = n := by
  have h : left = 2 * (left / 2) + r := by omega
  generalize left / 2 = x at *
  subst h
  rw [Int.add_mul, Int.mul_assoc] at e
  rw [Int.mul_add]
  omega
def sp__law_repeated_right (K : PySem.W.Frag) : Sp := fun vs H Q _ => ∃ (size : Int) (p a : Addr) (ts : List Int) (n : Int), vs = [.int size, .ref p, .ref a, .int n] ∧ SqT K H p (t3 (ein size ts)) ∧ H a = some (.lst (ts.map V.int)) ∧ 0 ≤ size ∧ size ≤ 100 ∧ ts.length ≤ 60 ∧ 0 ≤ n ∧ n < 2 ^ 150 ∧ Evl.RetV (.bl true) H Q
section
variable {w : World} {K : PySem.W.Frag} {mg : Str → Option Value} {base : Heap}
theorem ok__law_repeated_right (T : Txt K mg) : FnOk PR w K mg base CX0 6 T.a__law_repeated_right T.d__law_repeated_right ["_law_size", "_law_effect", "_law_turns_here", "_law_times_here"] (sp__law_repeated_right K) := by
  refine T.f__law_repeated_right.ok sc__law_repeated_right (fun vs H Q E h => ?_) (fun cdv A outer s H vs Q E hr h => ?_)
  · obtain ⟨size, p, a, ts, n, rfl, _⟩ := h
    rfl
  · obtain ⟨size, p, a, ts, n, rfl, hp, ha, z0, z1, l1, n0, n1, k⟩ := h
    refine ⟨_, (pss_cons (ps_for PassesOwn.never rfl (pi_range1 (by rfl) T.z_range (pa_cons pe_int pa_nil)) (pg_name (i := 4) sc__law_repeated_right.nd rfl (by first | exact Or.inl rfl | exact Or.inr rfl)) (pss_one (ps_if (pt_not (pt_val (pe_call (ok__law_is_effect T) (hr.mono (by decide)) (by rfl) T.g__law_is_effect T.f__law_is_effect.kp (b__law_is_effect T) .nil pass0 (pa_cons (pe_call (ok_repeated_effect T) (hr.mono (by decide)) (by rfl) T.g_repeated_effect T.f_repeated_effect.kp (b_repeated_effect T) .nil passL (pa_cons (pv 0) (pa_cons (pv 1) (pa_cons (pv 4) pa_nil)))) (pa_cons (pe_op op_repG (pe_lstG (pa_cons (pv 0) pa_nil)) (pe_op op_add (pe_op op_mulW (pe_callB call_len_seq (by rfl) T.z_len PySem.boot_len (pa_cons (pv 2) pa_nil)) (pv 4)) pe_int)) (pa_cons (pe_op op_repG (pv 2) (pv 4)) pa_nil)))))) (pss_one (ps_ret pe_bl)) pss_nil))) (pss_cons (ps_par3 (by rfl) sc__law_repeated_right.nd rfl rfl rfl (by decide) (by decide) (by decide) rfl rfl rfl (i := 5) (j := 6) (l := 7) (pa_cons (pe_tupG (pa_cons pe_int (pa_cons pe_int (pa_cons (pv 0) pa_nil)))) (pa_cons (pv 1) (pa_cons (pv 3) pa_nil))) (by rfl)) (pss_cons (ps_while PassesOwn.never (pt_cmpR op_gt (pv 7) pe_int (nomark _)) (pss_cons (ps_cut (ps_if (pt_cmpR op_eq (pe_op op_mod (pv 7) pe_int) pe_int (nomark _)) (pss_one (ps_set (i := 5) sc__law_repeated_right.nd rfl (by first | exact Or.inl rfl | exact Or.inr rfl) (pe_call (ok_joined_effect T) (hr.mono (by decide)) (by rfl) T.g_joined_effect T.f_joined_effect.kp (b_joined_effect T) .nil passL (pa_cons (pv 0) (pa_cons (pv 5) (pa_cons (pv 6) pa_nil)))))) pss_nil)) (pss_cons (ps_set (i := 6) sc__law_repeated_right.nd rfl (by first | exact Or.inl rfl | exact Or.inr rfl) (pe_call (ok_joined_effect T) (hr.mono (by decide)) (by rfl) T.g_joined_effect T.f_joined_effect.kp (b_joined_effect T) .nil passL (pa_cons (pv 0) (pa_cons (pv 6) (pa_cons (pv 6) pa_nil))))) (pss_one (ps_set (i := 7) sc__law_repeated_right.nd rfl (by first | exact Or.inl rfl | exact Or.inr rfl) (pe_op op_fdivW (pv 7) pe_int)))))) (pss_one (ps_ret (pe_cmpR (op_eqD hr.units) (pe_callK0 (ok_repeated_effect T) (hr.mono (by decide)) (by rfl) T.g_repeated_effect T.f_repeated_effect.kp (kb_repeated_effect_0_times_effect_size T) passL (pk_cons (pv 3) (pk_cons (pv 1) (pk_cons (pv 0) pk_nil)))) (pv 5) (nomark _))))))), ?_⟩
    have v := ein_valid z0 ts
    have be : (ein size ts).1.natAbs < 2 ^ 200 := by
      obtain ⟨v1, v2, v3, v4, v5⟩ := v
      omega
    refine ⟨_, rfl, (by decide), (by decide), for_range (lo := 0) (n := 5) (fun i σ H' => ∃ v1, σ = [some (.int size), some (.ref p), some (.ref a), some (.int n), v1, none, none, none] ∧ Ex H H') ⟨_, rfl, Evl.Ex.refl _⟩ ?_ ?_⟩
    · rintro i σ H' hi ⟨v1, rfl, e⟩
      refine ⟨_, rfl, _, rfl, _, rfl, size, p, ein size ts, (0 + (i : Int)), rfl, Evl.ex_t e hp, by omega, be, fun _ _ _ p1 H1 n1 e1 h1 => ?_, fun q => absurd q (by omega), fun _ q => absurd v q, fun _ _ q => absurd q (by omega)⟩
      rw [Int.zero_add, rep_ein z0] at h1
      refine ⟨_, rfl, (by show 1 ≤ sizeLine; decide), fun p2 H2 n2 e2 h2 => ?_⟩
      have ha2 := e2 _ _ (e1 _ _ (e _ _ ha))
      have hml : (ts.length : Int) * (0 + (i : Int)) = ((ts.length * i : Nat) : Int) := by
        rw [Int.zero_add, Int.natCast_mul]
      have hmb : ts.length * i ≤ 60 * 4 := Nat.mul_le_mul l1 (by omega)
      have hmb2 : (ts.length : Int) * (0 + (i : Int)) ≤ 240 := by
        rw [hml]
        omega
      have hmb3 : 0 ≤ (ts.length : Int) * (0 + (i : Int)) := by
        rw [hml]
        omega
      refine ⟨_, rfl, _, _, rfl, .inl (sqI ha2), _, rfl, _, _, rfl, rfl, wide_mul (a := 10) (b := 10) (by rw [List.length_map]; omega) (by omega) (by decide) (by decide) (by decide), _, _, rfl, rfl, _, _, _, rfl, rfl, h2, (by rw [List.length_map]; omega), (by rw [List.length_map]; omega), ?_, fun p3 H3 n3 e3 h3 => ?_⟩
      · rw [List.length_map]
        exact Nat.le_trans (show 1 * ((ts.length : Int) * (0 + (i : Int)) + 1).toNat ≤ 241 by omega) (by decide)
      rw [List.length_map, repl_one, show ((ts.length : Int) * (0 + (i : Int)) + 1).toNat = (reps ts i).length + 1 by rw [reps_len]; omega] at h3
      refine ⟨_, rfl, _, rfl, _, _, _, rfl, rfl, e3 _ _ ha2, by omega, by omega, ?_, fun p4 H4 n4 e4 h4 => ?_⟩
      · rw [List.length_map, show (0 + (i : Int)).toNat = i by omega]
        exact Nat.le_trans (show ts.length * i ≤ 240 by omega) (by decide)
      rw [repl_list, show (0 + (i : Int)).toNat = i by omega] at h4
      refine ⟨p1, p3, p4, List.replicate ((reps ts i).length + 1) size, reps ts i, rfl, ?_, sqI (e4 _ _ h3), sqI h4, by simp, repl_nn z0 _, ?_, fun H5 e5 => ?_⟩
      · rw [← ein_eff z0]
        exact e4 _ _ (e3 _ _ (e2 _ _ h1))
      · rw [show room0 (List.replicate ((reps ts i).length + 1) size) = size from rep_getD size _ 0 (by omega)]
        omega
      refine ⟨_, rfl, iteF ?_⟩
      exact ⟨_, rfl, e.trans (e1.trans (e2.trans (e3.trans (e4.trans e5))))⟩
    · rintro σ H0 ⟨v1, rfl, e0⟩
      refine ⟨_, rfl, (by show 3 ≤ sizeLine; decide), fun p4 H4 n4 e4 h4 => ?_⟩
      refine ⟨_, rfl, _, rfl, _, _, _, rfl, ?_⟩
      have e04 := e0.trans e4
      refine ⟨fun m σ H' => ∃ (d left pw : Int) (qf qp : Addr), σ = [some (.int size), some (.ref p), some (.ref a), some (.int n), v1, some (.ref qf), some (.ref qp), some (.int left)] ∧ m = left.toNat ∧ Ex H H' ∧ SqT K H' qf (t3 (rep size (ein size ts) d)) ∧ SqT K H' qp (t3 (rep size (ein size ts) pw)) ∧ 0 ≤ d ∧ 0 ≤ left ∧ 1 ≤ pw ∧ d + left * pw = n, ?_, ?_⟩
      · refine ⟨n.toNat, 0, n, 1, p4, p, rfl, rfl, e04, ?_, ?_, Int.le_refl _, n0, Int.le_refl _, by omega⟩
        · rw [rep_zero z0]
          exact sqT h4
        · rw [rep_one v]
          exact Evl.ex_t e04 hp
      · rintro m σ H' ⟨d, left, pw, qf, qp, rfl, em, e', hf, hq, d0, l0, p0, sm⟩
        refine ⟨_, rfl, _, _, rfl, rfl, _, rfl, ?_⟩
        refine ifB (fun c => ?_) (fun c => ?_)
        · have c' : left > 0 := of_decide_eq_true c
          refine ⟨fun σ' H2 => ∃ (d' left' pw' : Int) (qf' qp' : Addr), σ' = [some (.int size), some (.ref p), some (.ref a), some (.int n), v1, some (.ref qf'), some (.ref qp'), some (.int left')] ∧ left'.toNat < m ∧ Ex H H2 ∧ SqT K H2 qf' (t3 (rep size (ein size ts) d')) ∧ SqT K H2 qp' (t3 (rep size (ein size ts) pw')) ∧ 0 ≤ d' ∧ 0 ≤ left' ∧ 1 ≤ pw' ∧ d' + left' * pw' = n, ?_, ?_⟩
          · rintro σ' H2 ⟨d', left', pw', qf', qp', es, lt, r⟩
            exact ⟨_, lt, d', left', pw', qf', qp', es, rfl, r⟩
          · refine ⟨fun σ' H2 => ∃ (qf' : Addr), σ' = [some (.int size), some (.ref p), some (.ref a), some (.int n), v1, some (.ref qf'), some (.ref qp), some (.int left)] ∧ Ex H' H2 ∧ SqT K H2 qf' (t3 (rep size (ein size ts) (d + (left % 2) * pw))), ?_, ?_⟩
            · refine ⟨_, rfl, _, _, rfl, rfl, (show (0 : Int) < 2 by decide), rfl, _, rfl, ?_⟩
              refine ifB (fun q => ?_) (fun q => ?_)
              · have q' : left % 2 = 1 := by simpa using q
                refine ⟨_, rfl, _, rfl, _, rfl, size, qf, qp, _, _, rfl, hf, hq, fun _ _ _ q1 H2 n2 e2 h2 => ?_, fun q => absurd q (by omega), fun _ q => absurd (rep_valid z0 v d0) q, fun _ _ q => absurd (rep_valid z0 v (by omega)) q⟩
                rw [rep_add0 z0 v d0 p0] at h2
                refine ⟨q1, rfl, e2, ?_⟩
                rw [q', Int.one_mul]
                exact sqT h2
              · have q' : left % 2 = 0 := by
                  have : ¬ left % 2 = 1 := by simpa using q
                  omega
                refine ⟨qf, rfl, Evl.Ex.refl _, ?_⟩
                rw [q', Int.zero_mul, Int.add_zero]
                exact hf
            · rintro σ' H2 ⟨qf', rfl, e2, h2⟩
              have hq2 := Evl.ex_t e2 hq
              refine ⟨_, rfl, _, rfl, _, rfl, size, qp, qp, _, _, rfl, hq2, hq2, fun _ _ _ q3 H3 n3 e3 h3 => ?_, fun q => absurd q (by omega), fun _ q => absurd (rep_valid z0 v (by omega)) q, fun _ _ q => absurd (rep_valid z0 v (by omega)) q⟩
              rw [rep_add0 z0 v (by omega) p0] at h3
              refine ⟨_, rfl, _, _, rfl, rfl, wide_div (b := 40) (by decide) (by decide) (by decide) (by decide), ?_⟩
              refine ⟨d + (left % 2) * pw, left / 2, pw + pw, qf', q3, rfl, ?_, e'.trans (e2.trans e3), Evl.ex_t e3 h2, sqT h3, ?_, by omega, by omega, half_step rfl sm⟩
              · rw [em]
                omega
              · have : 0 ≤ (left % 2) * pw := Int.mul_nonneg (by omega) (by omega)
                omega
        · have c' : left = 0 := by
            have : ¬ left > 0 := of_decide_eq_false c
            omega
          have ed : d = n := by
            rw [c', Int.zero_mul] at sm
            omega
          rw [ed] at hf
          refine ⟨_, rfl, _, rfl, _, rfl, size, p, ein size ts, n, rfl, Evl.ex_t e' hp, by omega, be, fun _ _ _ q5 H5 n5 e5 h5 => ?_, fun q => absurd q (by omega), fun _ q => absurd v q, fun _ _ q => absurd q (by omega)⟩
          refine ⟨_, rfl, eq3 (sqT h5) (Evl.ex_t e5 hf) rfl ?_⟩
          exact k _ (e'.trans e5)
end
end K35
set_option Elab.async false
set_option linter.all false
set_option maxRecDepth 100000
set_option maxHeartbeats 4000000
namespace K35
open PySem L2 My
/-- a list of draws, over a range -/
theorem lc_drawR {lo : Int} {n : Nat} {B l h : Int} {j : Addr} {jj : Nat} {te : TE} {vs : List Nat} {σ : L2.St} {H1 : Hp} {D : Addr} {Qd : Hp → Prop} (j1 : Jug H1 j B) (hD : H1 D = none) (hz : n < sizeLine)
    (hw : ∀ x, wipe ((wipe σ vs).set jj (some x)) vs = wipe σ vs)
    (he : ∀ (i : Nat) H', Exj j H1 H' → Jug H' j (B + i) → i < n → ∀ R : VK, (∀ (v : Int) H2, l ≤ v → v ≤ h → Exj j H' H2 → Jug H2 j (B + i + 1) → R (.int v) H2) → te ((wipe σ vs).set jj (some (.int (lo + i)))) H' R)
    (k : ∀ (ts : List Int) H', Exj j H1 H' → Jug H' j (B + n) → H' D = some (.lst (ts.map V.int)) → ts.length = n → (∀ t ∈ ts, l ≤ t ∧ t ≤ h) → Qd H') :
    ∃ W : Nat → Nat → Hp → Prop, (∃ m, W 0 m (upd H1 D (.lst []))) ∧ ∀ i m H, W i m H →
      ((Itr lo n).stop i H ∧ Qd H) ∨ ((Itr lo n).go i H ∧ ∃ Nx : Hp → Prop, (∀ H', Nx H' → ∃ m', m' < m ∧ W (i + 1) m' H') ∧ ∀ x H', (Itr lo n).yld i H x H' → gName jj x (wipe σ vs) H' fun σ2 H2 => wipe σ2 vs = wipe σ vs ∧ tYes σ2 H2 fun b H3 =>
        if b = true then te σ2 H3 fun y H4 => ∃ acc, H4 D = some (.lst acc) ∧ acc.length < sizeLine ∧ Nx (upd H4 D (.lst (acc ++ [y]))) else Nx H3) := by
  have nDj : D ≠ j := j1.ne hD
  refine lc_range (fun i H2 => ∃ ts : List Int, Exj j H1 H2 ∧ Jug H2 j (B + i) ∧ H2 D = some (.lst (ts.map V.int)) ∧ ts.length = i ∧ ∀ t ∈ ts, l ≤ t ∧ t ≤ h) ?_ ?_ ?_
  · exact ⟨[], Exj.of (Evl.Ex.new hD), (j1.ex (Evl.Ex.new hD)).mono (by omega), upd_same, rfl, fun t ht => by cases ht⟩
  · rintro i H2 hi ⟨ts, e2, j2, hd, hl, ht⟩
    refine ⟨hw _, ?_⟩
    show te ((wipe σ vs).set jj (some (.int (lo + i)))) H2 _
    refine he i H2 e2 j2 hi _ fun v H3 v0 v1 e3 j3 => ?_
    refine ⟨ts.map V.int, e3 _ _ nDj hd, ?_, ?_⟩
    · rw [List.length_map, hl]
      omega
    · refine ⟨ts ++ [v], fun b o nb hb => ?_, ?_, ?_, by simp [hl], fun t h => ?_⟩
      · rw [upd_ne (ne_of_none hb hD)]
        exact e3 _ _ nb (e2 _ _ nb hb)
      · obtain ⟨x, y, z, h, r1, r2, r3, r4⟩ := j3
        exact ⟨x, y, z, by rw [upd_ne nDj.symm]; exact h, r1, r2, r3, by omega⟩
      · rw [upd_same, List.map_append]
        rfl
      · rcases List.mem_append.mp h with q | q
        · exact ht t q
        · have : t = v := by simpa using q
          omega
  · rintro H2 ⟨ts, e2, j2, hd, hl, ht⟩
    exact k ts H2 e2 j2 hd hl ht
/-- a list of draws, one for each item of a list -/
theorem lc_drawL {K : PySem.W.Frag} {a : Addr} {xs : List V} {B l h : Int} {j : Addr} {jj : Nat} {te : TE} {vs : List Nat} {σ : L2.St} {H1 : Hp} {D : Addr} {Qd : Hp → Prop} (hx : H1 a = some (.lst xs)) (naj : a ≠ j) (j1 : Jug H1 j B) (hD : H1 D = none) (hz : xs.length < sizeLine)
    (hw : ∀ x, wipe ((wipe σ vs).set jj (some x)) vs = wipe σ vs)
    (he : ∀ (i : Nat) x H', Exj j H1 H' → Jug H' j (B + i) → i < xs.length → ∀ R : VK, (∀ (v : Int) H2, l ≤ v → v ≤ h → Exj j H' H2 → Jug H2 j (B + i + 1) → R (.int v) H2) → te ((wipe σ vs).set jj (some x)) H' R)
    (k : ∀ (ts : List Int) H', Exj j H1 H' → Jug H' j (B + xs.length) → H' D = some (.lst (ts.map V.int)) → ts.length = xs.length → (∀ t ∈ ts, l ≤ t ∧ t ≤ h) → Qd H') :
    ∃ W : Nat → Nat → Hp → Prop, (∃ m, W 0 m (upd H1 D (.lst []))) ∧ ∀ i m H, W i m H →
      ((Itl K a).stop i H ∧ Qd H) ∨ ((Itl K a).go i H ∧ ∃ Nx : Hp → Prop, (∀ H', Nx H' → ∃ m', m' < m ∧ W (i + 1) m' H') ∧ ∀ x H', (Itl K a).yld i H x H' → gName jj x (wipe σ vs) H' fun σ2 H2 => wipe σ2 vs = wipe σ vs ∧ tYes σ2 H2 fun b H3 =>
        if b = true then te σ2 H3 fun y H4 => ∃ acc, H4 D = some (.lst acc) ∧ acc.length < sizeLine ∧ Nx (upd H4 D (.lst (acc ++ [y]))) else Nx H3) := by
  have nDj : D ≠ j := j1.ne hD
  refine lc_list (xs := xs) (fun i H2 => ∃ ts : List Int, Exj j H1 H2 ∧ Jug H2 j (B + i) ∧ H2 D = some (.lst (ts.map V.int)) ∧ ts.length = i ∧ ∀ t ∈ ts, l ≤ t ∧ t ≤ h) ?_ ?_ ?_ ?_
  · exact ⟨[], Exj.of (Evl.Ex.new hD), (j1.ex (Evl.Ex.new hD)).mono (by omega), upd_same, rfl, fun t ht => by cases ht⟩
  · rintro i H2 _ ⟨_, e2, _⟩
    exact sqI (e2 _ _ naj hx)
  · rintro i x H2 hi ⟨ts, e2, j2, hd, hl, ht⟩
    have hi' : i < xs.length := (List.getElem?_eq_some_iff.mp hi).1
    refine ⟨hw _, ?_⟩
    show te ((wipe σ vs).set jj (some x)) H2 _
    refine he i x H2 e2 j2 hi' _ fun v H3 v0 v1 e3 j3 => ?_
    refine ⟨ts.map V.int, e3 _ _ nDj hd, ?_, ?_⟩
    · rw [List.length_map, hl]
      omega
    · refine ⟨ts ++ [v], fun b o nb hb => ?_, ?_, ?_, by simp [hl], fun t h => ?_⟩
      · rw [upd_ne (ne_of_none hb hD)]
        exact e3 _ _ nb (e2 _ _ nb hb)
      · obtain ⟨x, y, z, h, r1, r2, r3, r4⟩ := j3
        exact ⟨x, y, z, by rw [upd_ne nDj.symm]; exact h, r1, r2, r3, by omega⟩
      · rw [upd_same, List.map_append]
        rfl
      · rcases List.mem_append.mp h with q | q
        · exact ht t q
        · have : t = v := by simpa using q
          omega
  · rintro H2 ⟨ts, e2, j2, hd, hl, ht⟩
    exact k ts H2 e2 j2 hd hl ht
theorem room0_at {sz : List Int} (h : 0 < sz.length) : atI (sz.map V.int) 0 = some (.int (room0 sz)) := by
  match sz, h with
  | s0 :: sr, _ => exact at0
def sp__law_ends_right (K : PySem.W.Frag) : Sp := fun vs H Q _ => ∃ (j p a b : Addr) (sz ts : List Int) (B : Int), vs = [.ref j, .ref p, .ref a, .ref b] ∧ Jug H j B ∧ B ≤ 2 ^ 50 ∧ H p = some (.tup (t3 (eff sz ts))) ∧ H a = some (.lst (sz.map V.int)) ∧ H b = some (.lst (ts.map V.int)) ∧ p ≠ j ∧ a ≠ j ∧ b ≠ j ∧
  ts.length + 1 = sz.length ∧ (∀ n ∈ sz, 0 ≤ n) ∧ room0 sz < 2 ^ 150 ∧ ∀ H', Exj j H H' → Jug H' j (B + 4) → Q (.bl true) H'
section
variable {P : Program} {w : World} {K : PySem.W.Frag} {mg : Str → Option Value} {base : Heap}
theorem ok__law_ends_right (T : Txt K mg) : FnOk P w K mg base CX0 2 T.a__law_ends_right T.d__law_ends_right ["_law_jug_here", "_law_told", "_law_sizes", "_law_turns_here"] (sp__law_ends_right K) := by
  refine T.f__law_ends_right.ok sc__law_ends_right (fun vs H Q E h => ?_) (fun cdv A outer s H vs Q E hr h => ?_)
  · obtain ⟨j, p, a, b, sz, ts, B, rfl, _⟩ := h
    rfl
  · obtain ⟨j, p, a, b, sz, ts, B, rfl, hj, hB, hp, ha, hb, npj, naj, nbj, hl, nn, hr0, k⟩ := h
    refine ⟨_, (pss_cons (ps_asg (pv 1) (pg_tup rfl (pgs_cons (pg_name (i := 4) sc__law_ends_right.nd rfl (by first | exact Or.inl rfl | exact Or.inr rfl)) (pgs_cons (pg_name (i := 5) sc__law_ends_right.nd rfl (by first | exact Or.inl rfl | exact Or.inr rfl)) (pgs_cons (pg_name (i := 6) sc__law_ends_right.nd rfl (by first | exact Or.inl rfl | exact Or.inr rfl)) pgs_nil))))) (pss_cons (ps_for PassesOwn.never rfl (pi_list (pe_op op_catG (pe_lstG (pa_cons pe_int (pa_cons (pe_ix ix_list (pv 2) pe_int (fun _ _ => rfl)) pa_nil))) (pe_lc (own := [("_law_turn", 8)]) (g := gName 8) (by rfl) sc__law_ends_right.nd (pi_range1 (by rfl) T.z_range (pa_cons pe_int pa_nil)) (blkOk_by (own := [("_law_turn", 8)]) (N := ["_law_jug_here", "_law_told", "_law_sizes", "_law_turns_here", "_law_shift", "_law_low", "_law_high", "_law_scroll", "_law_turn"]) (sc := defScope s__law_ends_right) (by decide +kernel)) (fun _ _ _ _ _ => (pg_name (i := 8) sc__law_ends_right.nd rfl (by first | exact Or.inl rfl | exact Or.inr rfl))) (fun _ _ _ _ _ => pts_nil) (fun _ _ _ _ _ => (pe_call (ok__law_pour T) (hr.mono (by decide)) (by rfl) T.g__law_pour T.f__law_pour.kp (b__law_pour T) .nil pass0 (pa_cons (pv 0) (pa_cons (pe_op op_add (pe_ix (ixK (r := rIxL) (K := K) (by rfl) ix_list) (pv 2) pe_int (fun _ _ => rfl)) pe_int) pa_nil))))))) (pg_name (i := 7) sc__law_ends_right.nd rfl (by first | exact Or.inl rfl | exact Or.inr rfl)) (pss_one (ps_if (pt_cmpR op_ne (pe_call (ok__law_led T) (hr.mono (by decide)) (by rfl) T.g__law_led T.f__law_led.kp (b__law_led T) .nil pass0 (pa_cons (pv 2) (pa_cons (pv 3) (pa_cons (pv 7) pa_nil)))) (pe_callB (call_max2 rfl) (by rfl) T.z_max (by decide +kernel) (pa_cons (pv 5) (pa_cons (pe_callB (call_min2 rfl) (by rfl) T.z_min (by decide +kernel) (pa_cons (pv 6) (pa_cons (pe_op op_add (pv 7) (pv 4)) pa_nil))) pa_nil))) (nomark _)) (pss_one (ps_ret pe_bl)) pss_nil))) (pss_cons (ps_if (PW.pt (pw_or (pt_cmpR op_ne (pv 5) (pe_call (ok__law_led T) (hr.mono (by decide)) (by rfl) T.g__law_led T.f__law_led.kp (b__law_led T) .nil pass0 (pa_cons (pv 2) (pa_cons (pv 3) (pa_cons pe_int pa_nil)))) (nomark _)) (pw_or1 (pt_cmpR op_ne (pv 6) (pe_call (ok__law_led T) (hr.mono (by decide)) (by rfl) T.g__law_led T.f__law_led.kp (b__law_led T) .nil pass0 (pa_cons (pv 2) (pa_cons (pv 3) (pa_cons (pe_ix ix_list (pv 2) pe_int (fun _ _ => rfl)) pa_nil)))) (nomark _))))) (pss_one (ps_ret pe_bl)) pss_nil) (pss_one (ps_ret (pe_cmpR op_eq (pv 4) (pe_cut (pe_ifExp (pt_cmpR op_lt (pv 5) (pv 6) (nomark _)) (pe_callB (cr_sum rfl) (by rfl) T.z_sum (by decide +kernel) (pa_cons (pv 3) pa_nil)) pe_int)) (nomark _))))))), ?_⟩
    have ng := nn_getD nn
    have r0 : 0 ≤ room0 sz := ng 0
    have hat := room0_at (sz := sz) (by omega)
    refine ⟨_, rfl, _, _, rfl, sqT hp, rfl, _, _, rfl, _, _, rfl, _, _, rfl, rfl, ?_⟩
    refine ⟨_, rfl, _, _, _, _, rfl, rfl, sqI ha, hat, (by show 2 ≤ sizeLine; decide), fun p1 H1 n1 e1 h1 => ?_⟩
    have j1 := hj.ex e1
    have np1 : p1 ≠ j := hj.ne n1
    refine ⟨_, rfl, (by decide), (by decide), fun D hD => lc_drawR (lo := 0) (n := 4) (l := 0) (h := room0 sz) j1 hD (by decide) (fun x => rfl) ?_ ?_⟩
    · intro i H' e' j' hi R kR
      refine ⟨_, rfl, _, rfl, _, _, _, _, rfl, rfl, sqI (e' _ _ naj (e1 _ _ ha)), hat, _, _, rfl, rfl, j, _, _, rfl, j', by omega, by omega, by omega, fun v H2 v0 v1 e2 j2 => ?_⟩
      exact kR v H2 v0 (by omega) e2 j2
    intro xs H2 e2 j2 h2 lx bx
    refine ⟨_, _, _, _, rfl, rfl, e2 _ _ np1 h1, h2, ?_, fun p3 H3 n3 e3 h3 => ?_⟩
    · rw [List.length_map, lx]
      show 2 + 4 ≤ sizeLine
      decide
    have h3' : H3 p3 = some (.lst ((0 :: room0 sz :: xs).map V.int)) := h3
    have e03 : Exj j H H3 := (Exj.of e1).trans (e2.trans (Exj.of e3))
    have j3 : Jug H3 j (B + 4) := j2.ex e3
    have bnd : ∀ t ∈ (0 :: room0 sz :: xs), 0 ≤ t ∧ t ≤ room0 sz := fun t ht => by
      rcases List.mem_cons.mp ht with q | q
      · omega
      · rcases List.mem_cons.mp q with q | q
        · omega
        · exact bx t q
    refine ⟨_, rfl, ⟨_, sqI h3'⟩, for_list (K := K) (a := p3) (xs := (0 :: room0 sz :: xs).map V.int) (fun i σ H' => ∃ v, σ = [some (.ref j), some (.ref p), some (.ref a), some (.ref b), some (.int (eff sz ts).1), some (.int (eff sz ts).2.1), some (.int (eff sz ts).2.2), v, none] ∧ Ex H3 H') ⟨_, rfl, Evl.Ex.refl _⟩ (fun i σ H' _ ⟨_, _, e⟩ => sqI (e _ _ h3')) ?_ ?_⟩
    · rintro i y σ H' hi ⟨v, rfl, e⟩
      obtain ⟨t, ht, rfl⟩ := mapI_get hi
      have bt := bnd t (List.mem_of_getElem? ht)
      refine ⟨_, rfl, _, rfl, _, rfl, a, b, sz, ts, t, rfl, sqI (e _ _ (e03 _ _ naj ha)), sqI (e _ _ (e03 _ _ nbj hb)), by omega, fun H4 e4 => ?_⟩
      refine ⟨_, rfl, _, rfl, _, rfl, _, rfl, _, _, rfl, rfl, _, _, rfl, _, _, rfl, rfl, _, rfl, ?_⟩
      refine ifF (nef (congrArg V.int (eff_all ng bt.1 bt.2))) ?_
      exact ⟨_, rfl, e.trans e4⟩
    · rintro σ H' ⟨v, rfl, e⟩
      have ha' := e _ _ (e03 _ _ naj ha)
      have hb' := e _ _ (e03 _ _ nbj hb)
      refine ⟨_, rfl, _, rfl, _, rfl, a, b, sz, ts, 0, rfl, sqI ha', sqI hb', by omega, fun H4 e4 => ?_⟩
      refine ⟨rfl, _, rfl, ifF (nef rfl) ?_⟩
      refine ⟨_, rfl, _, rfl, _, rfl, _, rfl, _, _, _, _, rfl, rfl, sqI (e4 _ _ ha'), hat, a, b, sz, ts, _, rfl, sqI (e4 _ _ ha'), sqI (e4 _ _ hb'), by omega, fun H5 e5 => ?_⟩
      refine ⟨rfl, _, rfl, ifF (nef rfl) ?_⟩
      refine ⟨_, rfl, fun v H' => H' = H5 ∧ v = .int (eff sz ts).1, ?_, ?_⟩
      · refine ⟨_, rfl, _, rfl, _, _, rfl, rfl, _, rfl, ?_⟩
        refine ifB (fun c => ?_) (fun c => ?_)
        · refine ⟨_, rfl, b, ts, rfl, sqI (e5 _ _ (e4 _ _ hb')), rfl, ?_⟩
          have : (eff sz ts).1 = ts.sum := if_pos (of_decide_eq_true c)
          rw [this]
        · refine ⟨rfl, ?_⟩
          have : (eff sz ts).1 = 0 := if_neg (of_decide_eq_false c)
          rw [this]
      rintro v2 H6 ⟨rfl, rfl⟩
      refine ⟨rfl, ?_⟩
      rw [decide_eq_true rfl]
      have e35 := e.trans (e4.trans e5)
      exact k _ (e03.trans (Exj.of e35)) (j3.ex e35)
end
end K35
set_option Elab.async false
set_option linter.all false
set_option maxRecDepth 100000
set_option maxHeartbeats 4000000
namespace K35
open PySem L2 My
theorem sum_bd {c : Int} : ∀ ts : List Int, (∀ t ∈ ts, -c ≤ t ∧ t ≤ c) → -(c * ts.length) ≤ ts.sum ∧ ts.sum ≤ c * ts.length
  | [], _ => by simp
  | t :: ts, h => by
    have ih := sum_bd ts fun x hx => h x (List.mem_cons_of_mem _ hx)
    have h0 := h t List.mem_cons_self
    rw [List.sum_cons, List.length_cons, Int.natCast_add, Int.mul_add]
    have : c * ((1 : Nat) : Int) = c := Int.mul_one c
    rw [this]
    omega
theorem mapMul {i : Nat} {ts : List Int} {wd : Int} {x y : V} (hx : (ts.map V.int)[i]? = some x) (hy : ((ts.map (wd * ·)).map V.int)[i]? = some y) : ∃ t, t ∈ ts ∧ x = .int t ∧ y = .int (wd * t) := by
  obtain ⟨t, ht, rfl⟩ := mapI_get hx
  obtain ⟨t', ht', rfl⟩ := mapI_get hy
  rw [List.getElem?_map, ht] at ht'
  have et : t' = wd * t := (Option.some.inj ht').symm
  subst et
  exact ⟨t, List.mem_of_getElem? ht, rfl, rfl⟩
def sp__law_through_right : Sp := fun vs H Q _ => ∃ (j : Addr) (wd B : Int), vs = [.ref j, .int wd] ∧ Jug H j B ∧ B ≤ 2 ^ 40 ∧ 0 < wd ∧ wd < 2 ^ 100 ∧ ∀ H', Exj j H H' → Jug H' j (B + 200) → Q (.bl true) H'
section
variable {w : World} {K : PySem.W.Frag} {mg : Str → Option Value} {base : Heap}
theorem ok__law_through_right (T : Txt K mg) : FnOk PR w K mg base CX0 6 T.a__law_through_right T.d__law_through_right ["_law_jug_here", "_law_width"] sp__law_through_right := by
  refine T.f__law_through_right.ok sc__law_through_right (fun vs H Q E h => ?_) (fun cdv A outer s H vs Q E hr h => ?_)
  · obtain ⟨j, wd, B, rfl, _⟩ := h
    rfl
  · obtain ⟨j, wd, B, rfl, hj, hB, w0, w1, k⟩ := h
    refine ⟨_, (pss_cons (ps_set (i := 2) sc__law_through_right.nd rfl (by first | exact Or.inl rfl | exact Or.inr rfl) (pe_call (ok__law_turns T) (hr.mono (by decide)) (by rfl) T.g__law_turns T.f__law_turns.kp (b__law_turns T) .nil pass0 (pa_cons (pv 0) (pa_cons pe_int (pa_cons pe_int pa_nil))))) (pss_cons (ps_set (i := 3) sc__law_through_right.nd rfl (by first | exact Or.inl rfl | exact Or.inr rfl) (pe_op op_catG (pe_lc (own := [("_law_turn", 7)]) (g := gName 7) (by rfl) sc__law_through_right.nd (pi_list (pv 2)) (blkOk_by (own := [("_law_turn", 7)]) (N := ["_law_jug_here", "_law_width", "_law_turns_here", "_law_sizes", "_law_told", "_law_great", "_law_same", "_law_turn", "_law_size"]) (sc := defScope s__law_through_right) (by decide +kernel)) (fun _ _ _ _ _ => (pg_name (i := 7) sc__law_through_right.nd rfl (by first | exact Or.inl rfl | exact Or.inr rfl))) (fun _ _ _ _ _ => pts_nil) (fun _ _ _ _ _ => (pe_call (ok__law_pour T) (hr.mono (by decide)) (by rfl) T.g__law_pour T.f__law_pour.kp (b__law_pour T) .nil pass0 (pa_cons (pv 0) (pa_cons pe_int pa_nil))))) (pe_lstG (pa_cons (pe_call (ok__law_pour T) (hr.mono (by decide)) (by rfl) T.g__law_pour T.f__law_pour.kp (b__law_pour T) .nil pass0 (pa_cons (pv 0) (pa_cons pe_int pa_nil))) pa_nil)))) (pss_cons (ps_set (i := 4) sc__law_through_right.nd rfl (by first | exact Or.inl rfl | exact Or.inr rfl) (pe_call (ok_effect_through T) (hr.mono (by decide)) (by rfl) T.g_effect_through T.f_effect_through.kp (b_effect_through T) .nil passL (pa_cons (pv 3) (pa_cons (pv 2) pa_nil)))) (pss_cons (ps_if (pt_not (pt_val (pe_call (ok__law_is_effect T) (hr.mono (by decide)) (by rfl) T.g__law_is_effect T.f__law_is_effect.kp (b__law_is_effect T) .nil pass0 (pa_cons (pv 4) (pa_cons (pv 3) (pa_cons (pv 2) pa_nil)))))) (pss_one (ps_ret pe_bl)) pss_nil) (pss_cons (ps_set (i := 5) sc__law_through_right.nd rfl (by first | exact Or.inl rfl | exact Or.inr rfl) (pe_tupG (pa_cons (pe_lc (own := [("_law_size", 8)]) (g := gName 8) (by rfl) sc__law_through_right.nd (pi_list (pv 3)) (blkOk_by (own := [("_law_size", 8)]) (N := ["_law_jug_here", "_law_width", "_law_turns_here", "_law_sizes", "_law_told", "_law_great", "_law_same", "_law_turn", "_law_size"]) (sc := defScope s__law_through_right) (by decide +kernel)) (fun _ _ _ _ _ => (pg_name (i := 8) sc__law_through_right.nd rfl (by first | exact Or.inl rfl | exact Or.inr rfl))) (fun _ _ _ _ _ => pts_nil) (fun _ _ _ _ _ => (pe_op op_mulW (pv 1) (pv 8)))) (pa_cons (pe_lc (own := [("_law_turn", 7)]) (g := gName 7) (by rfl) sc__law_through_right.nd (pi_list (pv 2)) (blkOk_by (own := [("_law_turn", 7)]) (N := ["_law_jug_here", "_law_width", "_law_turns_here", "_law_sizes", "_law_told", "_law_great", "_law_same", "_law_turn", "_law_size"]) (sc := defScope s__law_through_right) (by decide +kernel)) (fun _ _ _ _ _ => (pg_name (i := 7) sc__law_through_right.nd rfl (by first | exact Or.inl rfl | exact Or.inr rfl))) (fun _ _ _ _ _ => pts_nil) (fun _ _ _ _ _ => (pe_op op_mulW (pv 1) (pv 7)))) pa_nil)))) (pss_cons (ps_if (pt_cmpR (op_neD hr.units) (pe_callK0 (ok_effect_through T) (hr.mono (by decide)) (by rfl) T.g_effect_through T.f_effect_through.kp (kb_effect_through_0_turns_sizes T) passL (pk_cons (pe_ix ix_tup (pv 5) pe_int (fun _ _ => rfl)) (pk_cons (pe_ix ix_tup (pv 5) pe_int (fun _ _ => rfl)) pk_nil))) (pe_call (ok__law_times T) (hr.mono (by decide)) (by rfl) T.g__law_times T.f__law_times.kp (b__law_times T) .nil pass0 (pa_cons (pv 4) (pa_cons (pv 1) pa_nil))) (nomark _)) (pss_one (ps_ret pe_bl)) pss_nil) (pss_cons (ps_set (i := 6) sc__law_through_right.nd rfl (by first | exact Or.inl rfl | exact Or.inr rfl) (pe_call (ok_effect_through T) (hr.mono (by decide)) (by rfl) T.g_effect_through T.f_effect_through.kp (b_effect_through T) .nil passL (pa_cons (pe_op op_repG (pe_lstG (pa_cons pe_int pa_nil)) (pe_op op_add (pe_callB call_len_seq (by rfl) T.z_len PySem.boot_len (pa_cons (pv 2) pa_nil)) pe_int)) (pa_cons (pv 2) pa_nil)))) (pss_one (ps_ret (pe_and (pe_cmpR (op_eqD hr.units) (pv 6) (pe_call (ok_effect_on T) (hr.mono (by decide)) (by rfl) T.g_effect_on T.f_effect_on.kp (b_effect_on T) .nil passL (pa_cons pe_int (pa_cons (pv 2) pa_nil))) (nomark _)) (pe_one (pe_cmpR op_eq (pe_op op_mulW (pe_ix ix_list (pv 3) pe_int (fun _ _ => rfl)) (pv 1)) (pe_ix ix_list (pe_ix ix_tup (pv 5) pe_int (fun _ _ => rfl)) pe_int (fun _ _ => rfl)) (nomark _))))))))))))), ?_⟩
    have bm : wd.natAbs < 2 ^ 100 := by omega
    have bm2 : wd.natAbs < 2 ^ 200 := by omega
    refine ⟨_, rfl, j, 6, 5, B, rfl, hj, by omega, by decide, by decide, by decide, by decide, fun pt H1 ts n1 e1 j1 h1 l1 bd => ?_⟩
    have npt : pt ≠ j := hj.ne n1
    -- _law_sizes
    refine ⟨_, rfl, pt, rfl, ⟨_, sqI h1⟩, fun D hD => lc_drawL (K := K) (xs := ts.map V.int) (l := 0) (h := 7) h1 npt j1 hD (by rw [List.length_map]; exact Nat.lt_of_le_of_lt l1 (by decide)) (fun x => rfl) ?_ ?_⟩
    · intro i x H' e' j' hi R kR
      rw [List.length_map] at hi
      exact ⟨_, rfl, j, _, _, rfl, j', by omega, by decide, by decide, fun v H2 v0 v1 e2 j2 => kR v H2 v0 (by omega) e2 j2⟩
    intro xs H2 e2 j2 h2 lx bx
    rw [List.length_map] at lx j2
    have nD : D ≠ j := j1.ne hD
    refine ⟨_, rfl, j, _, _, rfl, j2, by omega, by decide, by decide, fun v H3 v0 v1 e3 j3 => ?_⟩
    refine ⟨(by show 1 ≤ sizeLine; decide), fun p4 H4 n4 e4 h4 => ?_⟩
    refine ⟨_, _, _, _, rfl, rfl, e4 _ _ (e3 _ _ nD h2), h4, ?_, fun ps H5 n5 e5 h5 => ?_⟩
    · rw [List.length_map]
      exact Nat.le_trans (show xs.length + 1 ≤ 61 by omega) (by decide)
    have hs5 : H5 ps = some (.lst ((xs ++ [v]).map V.int)) := by
      rw [List.map_append]
      exact h5
    have e15 : Exj j H1 H5 := e2.trans (e3.trans (Exj.of (e4.trans e5)))
    have j5 : Jug H5 j (B + 200) := (j3.ex (e4.trans e5)).mono (by omega)
    have ht5 := e15 _ _ npt h1
    have lz : (xs ++ [v]).length = ts.length + 1 := by simp [lx]
    have nz : ∀ n ∈ xs ++ [v], 0 ≤ n ∧ n ≤ 7 := fun n hn => by
      rcases List.mem_append.mp hn with q | q
      · exact bx n q
      · have : n = v := by simpa using q
        omega
    have nn : ∀ n ∈ xs ++ [v], 0 ≤ n := fun n hn => (nz n hn).1
    generalize xs ++ [v] = sz at hs5 lz nz nn
    have ng := nn_getD nn
    have le7 : ∀ n, sz.getD n 0 ≤ 7 := fun n => by
      rw [List.getD_eq_getElem?_getD]
      cases e : sz[n]? with
      | none => decide
      | some x => exact (nz x (List.mem_of_getElem? e)).2
    have r7 : room0 sz ≤ 7 := le7 0
    have r0 : 0 ≤ room0 sz := ng 0
    -- _law_told
    refine ⟨_, rfl, _, rfl, ps, pt, sz, ts, rfl, sqI hs5, sqI ht5, fun _ _ q6 H6 n6 e6 h6 => ?_, fun i n hn _ q => absurd (nn n (List.mem_of_getElem? hn)) (by omega), fun _ q => absurd lz q⟩
    refine ⟨_, rfl, _, rfl, _, rfl, q6, ps, pt, sz, ts, rfl, h6, sqI (e6 _ _ hs5), sqI (e6 _ _ ht5), by omega, nn, by omega, fun H7 e7 => ?_⟩
    refine ⟨_, rfl, iteF ?_⟩
    have e57 := e6.trans e7
    have hs7 := e57 _ _ hs5
    have ht7 := e57 _ _ ht5
    -- _law_great
    refine ⟨_, rfl, ps, rfl, ⟨_, sqI hs7⟩, fun D8 hD8 => lc_mapL (xs := sz.map V.int) (ys := (sz.map (wd * ·)).map V.int) (sqI hs7) hD8 (by simp) (by rw [List.length_map, lz]; exact Nat.le_trans (show ts.length + 1 ≤ 61 by omega) (by decide)) (fun x => rfl) ?_ ?_⟩
    · intro i x y H' e' hx hy R' kR
      obtain ⟨t, ht, rfl, rfl⟩ := mapMul hx hy
      have := nz t ht
      exact ⟨_, rfl, _, rfl, _, _, rfl, rfl, wide_mul (b := 10) bm (by omega) (by decide) (by decide) (by decide), kR _ (Evl.Ex.refl _)⟩
    intro H8 e8 h8
    refine ⟨_, rfl, pt, rfl, ⟨_, sqI (e8 _ _ ht7)⟩, fun D9 hD9 => lc_mapL (xs := ts.map V.int) (ys := (ts.map (wd * ·)).map V.int) (sqI (e8 _ _ ht7)) hD9 (by simp) (by rw [List.length_map]; exact Nat.le_trans l1 (by decide)) (fun x => rfl) ?_ ?_⟩
    · intro i x y H' e' hx hy R' kR
      obtain ⟨t, ht, rfl, rfl⟩ := mapMul hx hy
      have := bd t ht
      exact ⟨_, rfl, _, rfl, _, _, rfl, rfl, wide_mul (b := 10) bm (by omega) (by decide) (by decide) (by decide), kR _ (Evl.Ex.refl _)⟩
    intro H9 e9 h9
    refine ⟨(by show 2 ≤ sizeLine; decide), fun pg Ha na ea hg => ?_⟩
    have hs8a := ea _ _ (e9 _ _ h8)
    have ht9a := ea _ _ h9
    have e7a := e8.trans (e9.trans ea)
    refine ⟨_, rfl, _, _, _, _, rfl, rfl, sqT hg, at1, _, rfl, _, _, _, _, rfl, rfl, sqT hg, at0, D8, D9, sz.map (wd * ·), ts.map (wd * ·), rfl, sqI hs8a, sqI ht9a, fun _ _ qb Hb nb eb hb => ?_, fun i n hn _ q => absurd q ?_, fun _ q => absurd (by simp [lz]) q⟩
    · rw [eff_mul w0] at hb
      have e7b := e7a.trans eb
      have bb := eff_bounds (ts := ts) ng
      have sb := sum_bd ts (c := 100) bd
      have b1 : (eff sz ts).1.natAbs < 2 ^ 400 := by
        show (if led sz ts 0 < led sz ts (room0 sz) then ts.sum else 0).natAbs < 2 ^ 400
        split <;> omega
      have u7 := le7 ts.length
      have b2 : (eff sz ts).2.1.natAbs < 2 ^ 400 := by
        show (led sz ts 0).natAbs < 2 ^ 400
        omega
      have b3 : (eff sz ts).2.2.natAbs < 2 ^ 400 := by
        show (led sz ts (room0 sz)).natAbs < 2 ^ 400
        omega
      refine ⟨_, rfl, _, rfl, q6, eff sz ts, wd, rfl, sqT (e7b _ _ (e7 _ _ h6)), bm2, b1, b2, b3, fun qc Hc nc ec hc => ?_⟩
      refine ne3 (sqT (ec _ _ hb)) (sqT hc) rfl ⟨_, rfl, ifF rfl ?_⟩
      have e7c := e7b.trans ec
      have ht' := e7c _ _ ht7
      -- _law_same
      refine ⟨(by show 1 ≤ sizeLine; decide), fun p1 G1 m1 f1 g1 => ?_⟩
      refine ⟨_, rfl, _, _, rfl, .inl (sqI (f1 _ _ ht')), _, _, rfl, rfl, _, _, _, rfl, rfl, g1, (by rw [List.length_map]; omega), (by rw [List.length_map]; omega), ?_, fun p2 G2 m2 f2 g2 => ?_⟩
      · rw [List.length_map]
        exact Nat.le_trans (show 1 * ((ts.length : Int) + 1).toNat ≤ 61 by omega) (by decide)
      rw [List.length_map, repl_one, show ((ts.length : Int) + 1).toNat = ts.length + 1 by omega] at g2
      have f12 := f1.trans f2
      refine ⟨_, rfl, p2, pt, List.replicate (ts.length + 1) 7, ts, rfl, sqI g2, sqI (f12 _ _ ht'), fun _ _ q3 G3 m3 f3 g3 => ?_, fun i n hn _ q => absurd (repl_nn (by decide) _ n (List.mem_of_getElem? hn)) (by omega), fun _ q => absurd (by simp) q⟩
      rw [← ein_eff (by decide)] at g3
      have f13 := f12.trans f3
      refine ⟨_, rfl, _, rfl, 7, pt, ts, rfl, sqI (f13 _ _ ht'), fun _ q4 G4 m4 f4 g4 => ?_, fun q => absurd q (by decide)⟩
      refine eq3 (sqT (f4 _ _ g3)) (sqT g4) rfl ⟨_, rfl, ifT rfl ?_⟩
      have f14 := f13.trans f4
      have eac := eb.trans (ec.trans f14)
      have hat := room0_at (sz := sz) (by omega)
      have hat2 : atI ((sz.map (wd * ·)).map V.int) 0 = some (.int (wd * room0 sz)) := by
        have := room0_at (sz := sz.map (wd * ·)) (by rw [List.length_map]; omega)
        rw [show room0 (sz.map (wd * ·)) = wd * room0 sz from getD_mul wd sz 0] at this
        exact this
      refine ⟨_, rfl, _, _, _, _, rfl, rfl, sqI (f14 _ _ (e7c _ _ hs7)), hat, _, rfl, _, _, rfl, rfl, wide_mul (a := 10) (b := 100) (by omega) bm (by decide) (by decide) (by decide), _, rfl, _, _, _, _, rfl, rfl, sqT (eac _ _ hg), at0, _, _, _, _, rfl, rfl, sqI (eac _ _ hs8a), hat2, rfl, ?_⟩
      rw [decide_eq_true (congrArg V.int (Int.mul_comm _ _))]
      have e5z : Ex H5 G4 := e57.trans (e7c.trans f14)
      exact k _ (e1.trans (e15.trans (Exj.of e5z))) (j5.ex e5z)
    · have hm : n ∈ sz.map (wd * ·) := List.mem_of_getElem? hn
      obtain ⟨x, hx, rfl⟩ := List.mem_map.mp hm
      have := Int.mul_nonneg (show 0 ≤ wd by omega) (nn x hx)
      omega
end
end K35
set_option Elab.async false
set_option linter.all false
set_option maxRecDepth 100000
set_option maxHeartbeats 4000000
namespace K35
open PySem L2 My
def sp__law_great_right : Sp := fun vs H Q _ => ∃ (j p : Addr) (size wd n B : Int) (e : Eff), vs = [.ref j, .int size, .ref p, .int wd, .int n] ∧ Jug H j B ∧ B ≤ 2 ^ 40 ∧ H p = some (.tup (t3 e)) ∧ p ≠ j ∧ Valid size e ∧ 0 ≤ size ∧ size ≤ 100 ∧ 0 < wd ∧ wd < 2 ^ 100 ∧ 0 ≤ n ∧ n < 2 ^ 150 ∧
  ∀ H', Exj j H H' → Jug H' j (B + 100) → Q (.bl true) H'
section
variable {w : World} {K : PySem.W.Frag} {mg : Str → Option Value} {base : Heap}
theorem ok__law_great_right (T : Txt K mg) : FnOk PR w K mg base CX0 6 T.a__law_great_right T.d__law_great_right ["_law_jug_here", "_law_size", "_law_effect", "_law_width", "_law_times_here"] sp__law_great_right := by
  refine T.f__law_great_right.ok sc__law_great_right (fun vs H Q E h => ?_) (fun cdv A outer s H vs Q E hr h => ?_)
  · obtain ⟨j, p, size, wd, n, B, e, rfl, _⟩ := h
    rfl
  · obtain ⟨j, p, size, wd, n, B, e, rfl, hj, hB, hp, npj, v, z0, z1, w0, w1, n0, n1, k⟩ := h
    refine ⟨_, (pss_cons (ps_set (i := 5) sc__law_great_right.nd rfl (by first | exact Or.inl rfl | exact Or.inr rfl) (pe_call (ok__law_times T) (hr.mono (by decide)) (by rfl) T.g__law_times T.f__law_times.kp (b__law_times T) .nil pass0 (pa_cons (pe_call (ok_repeated_effect T) (hr.mono (by decide)) (by rfl) T.g_repeated_effect T.f_repeated_effect.kp (b_repeated_effect T) .nil passL (pa_cons (pv 1) (pa_cons (pv 2) (pa_cons (pv 4) pa_nil)))) (pa_cons (pv 3) pa_nil)))) (pss_cons (ps_if (pt_cmpR (op_neD hr.units) (pe_call (ok_repeated_effect T) (hr.mono (by decide)) (by rfl) T.g_repeated_effect T.f_repeated_effect.kp (b_repeated_effect T) .nil passL (pa_cons (pe_op op_mulW (pv 3) (pv 1)) (pa_cons (pe_call (ok__law_times T) (hr.mono (by decide)) (by rfl) T.g__law_times T.f__law_times.kp (b__law_times T) .nil pass0 (pa_cons (pv 2) (pa_cons (pv 3) pa_nil))) (pa_cons (pv 4) pa_nil)))) (pv 5) (nomark _)) (pss_one (ps_ret pe_bl)) pss_nil) (pss_cons (ps_par3 (by rfl) sc__law_great_right.nd rfl rfl rfl (by decide) (by decide) (by decide) rfl rfl rfl (i := 6) (j := 7) (l := 8) (pa_cons (pe_op op_add (pe_op op_powW pe_int pe_int) (pe_call (ok__law_pour T) (hr.mono (by decide)) (by rfl) T.g__law_pour T.f__law_pour.kp (b__law_pour T) .nil pass0 (pa_cons (pv 0) (pa_cons (pe_op op_powW pe_int pe_int) pa_nil)))) (pa_cons (pe_op op_add pe_int (pe_call (ok__law_pour T) (hr.mono (by decide)) (by rfl) T.g__law_pour T.f__law_pour.kp (b__law_pour T) .nil pass0 (pa_cons (pv 0) (pa_cons pe_int pa_nil)))) (pa_cons (pe_op op_add pe_int (pe_call (ok__law_pour T) (hr.mono (by decide)) (by rfl) T.g__law_pour T.f__law_pour.kp (b__law_pour T) .nil pass0 (pa_cons (pv 0) (pa_cons (pe_op op_mulW pe_int (pe_op op_powW pe_int pe_int)) pa_nil)))) pa_nil))) (by rfl)) (pss_cons (ps_set (i := 5) sc__law_great_right.nd rfl (by first | exact Or.inl rfl | exact Or.inr rfl) (pe_cut (pe_ifExp (pt_cmpR op_lt (pe_op op_mulW (pv 7) (pv 8)) (pv 6) (nomark _)) (pe_tupG (pa_cons (pe_op op_mulW (pv 7) (pv 8)) (pa_cons (pe_op op_mulW (pv 7) (pv 8)) (pa_cons (pv 6) pa_nil)))) (pe_tupG (pa_cons pe_int (pa_cons (pv 6) (pa_cons (pv 6) pa_nil))))))) (pss_cons (ps_if (pt_cmpR (op_neD hr.units) (pe_call (ok_repeated_effect T) (hr.mono (by decide)) (by rfl) T.g_repeated_effect T.f_repeated_effect.kp (b_repeated_effect T) .nil passL (pa_cons (pv 6) (pa_cons (pe_tupG (pa_cons (pv 7) (pa_cons (pv 7) (pa_cons (pv 6) pa_nil)))) (pa_cons (pv 8) pa_nil)))) (pv 5) (nomark _)) (pss_one (ps_ret pe_bl)) pss_nil) (pss_cons (ps_set (i := 5) sc__law_great_right.nd rfl (by first | exact Or.inl rfl | exact Or.inr rfl) (pe_cut (pe_ifExp (pt_cmpR op_lt (pe_op op_mulW (pv 7) (pv 8)) (pv 6) (nomark _)) (pe_tupG (pa_cons (pe_op op_sub pe_int (pe_op op_mulW (pv 7) (pv 8))) (pa_cons pe_int (pa_cons (pe_op op_sub (pv 6) (pe_op op_mulW (pv 7) (pv 8))) pa_nil)))) (pe_tupG (pa_cons pe_int (pa_cons pe_int (pa_cons pe_int pa_nil))))))) (pss_cons (ps_if (pt_cmpR (op_neD hr.units) (pe_call (ok_repeated_effect T) (hr.mono (by decide)) (by rfl) T.g_repeated_effect T.f_repeated_effect.kp (b_repeated_effect T) .nil passL (pa_cons (pv 6) (pa_cons (pe_tupG (pa_cons (pe_op op_sub pe_int (pv 7)) (pa_cons pe_int (pa_cons (pe_op op_sub (pv 6) (pv 7)) pa_nil)))) (pa_cons (pv 8) pa_nil)))) (pv 5) (nomark _)) (pss_one (ps_ret pe_bl)) pss_nil) (pss_cons (ps_setLc (i := 9) (own := [("_law_turn", 13)]) (g := gName 13) (by rfl) sc__law_great_right.nd rfl rfl (sw_true rfl rfl rfl (by decide +kernel)) (pi_range1 (by rfl) T.z_range (pa_cons (pe_call (ok__law_pour T) (hr.mono (by decide)) (by rfl) T.g__law_pour T.f__law_pour.kp (b__law_pour T) .nil pass0 (pa_cons (pv 0) (pa_cons pe_int pa_nil))) pa_nil)) (blkOk_by (own := [("_law_turn", 13)]) (N := ["_law_jug_here", "_law_size", "_law_effect", "_law_width", "_law_times_here", "_law_due", "_law_far", "_law_by", "_law_many", "_law_turns_here", "_law_more", "_law_both", "_law_sizes", "_law_turn"]) (sc := defScope s__law_great_right) (by decide +kernel)) (fun _ _ _ _ _ => (pg_name (i := 13) sc__law_great_right.nd rfl (by first | exact Or.inl rfl | exact Or.inr rfl))) (fun _ _ _ _ _ => pts_nil) (fun _ _ _ _ _ => (pe_op op_sub (pe_call (ok__law_pour T) (hr.mono (by decide)) (by rfl) T.g__law_pour T.f__law_pour.kp (b__law_pour T) .nil pass0 (pa_cons (pv 0) (pa_cons (pe_op op_mulW pe_int (pe_op op_powW pe_int pe_int)) pa_nil))) (pe_op op_powW pe_int pe_int)))) (pss_cons (ps_cut (ps_set (i := 9) sc__law_great_right.nd rfl (by first | exact Or.inl rfl | exact Or.inr rfl) (pe_op op_catG (pv 9) (pe_lc (own := [("_law_turn", 13)]) (g := gName 13) (by rfl) sc__law_great_right.nd (pi_range1 (by rfl) T.z_range (pa_cons (pe_call (ok__law_pour T) (hr.mono (by decide)) (by rfl) T.g__law_pour T.f__law_pour.kp (b__law_pour T) .nil pass0 (pa_cons (pv 0) (pa_cons pe_int pa_nil))) pa_nil)) (blkOk_by (own := [("_law_turn", 13)]) (N := ["_law_jug_here", "_law_size", "_law_effect", "_law_width", "_law_times_here", "_law_due", "_law_far", "_law_by", "_law_many", "_law_turns_here", "_law_more", "_law_both", "_law_sizes", "_law_turn"]) (sc := defScope s__law_great_right) (by decide +kernel)) (fun _ _ _ _ _ => (pg_name (i := 13) sc__law_great_right.nd rfl (by first | exact Or.inl rfl | exact Or.inr rfl))) (fun _ _ _ _ _ => pts_nil) (fun _ _ _ _ _ => (pe_op op_sub (pe_call (ok__law_pour T) (hr.mono (by decide)) (by rfl) T.g__law_pour T.f__law_pour.kp (b__law_pour T) .nil pass0 (pa_cons (pv 0) (pa_cons pe_int pa_nil))) pe_int)))))) (pss_cons (ps_cut (ps_setLc (i := 10) (own := [("_law_turn", 13)]) (g := gName 13) (by rfl) sc__law_great_right.nd rfl rfl (sw_true rfl rfl rfl (by decide +kernel)) (pi_range1 (by rfl) T.z_range (pa_cons (pe_call (ok__law_pour T) (hr.mono (by decide)) (by rfl) T.g__law_pour T.f__law_pour.kp (b__law_pour T) .nil pass0 (pa_cons (pv 0) (pa_cons pe_int pa_nil))) pa_nil)) (blkOk_by (own := [("_law_turn", 13)]) (N := ["_law_jug_here", "_law_size", "_law_effect", "_law_width", "_law_times_here", "_law_due", "_law_far", "_law_by", "_law_many", "_law_turns_here", "_law_more", "_law_both", "_law_sizes", "_law_turn"]) (sc := defScope s__law_great_right) (by decide +kernel)) (fun _ _ _ _ _ => (pg_name (i := 13) sc__law_great_right.nd rfl (by first | exact Or.inl rfl | exact Or.inr rfl))) (fun _ _ _ _ _ => pts_nil) (fun _ _ _ _ _ => (pe_op op_sub (pe_call (ok__law_pour T) (hr.mono (by decide)) (by rfl) T.g__law_pour T.f__law_pour.kp (b__law_pour T) .nil pass0 (pa_cons (pv 0) (pa_cons (pe_op op_mulW pe_int (pe_op op_powW pe_int pe_int)) pa_nil))) (pe_op op_powW pe_int pe_int))))) (pss_cons (ps_set (i := 11) sc__law_great_right.nd rfl (by first | exact Or.inl rfl | exact Or.inr rfl) (pe_call (ok_joined_effect T) (hr.mono (by decide)) (by rfl) T.g_joined_effect T.f_joined_effect.kp (b_joined_effect T) .nil passL (pa_cons (pv 6) (pa_cons (pe_call (ok_effect_on T) (hr.mono (by decide)) (by rfl) T.g_effect_on T.f_effect_on.kp (b_effect_on T) .nil passL (pa_cons (pv 6) (pa_cons (pv 9) pa_nil))) (pa_cons (pe_call (ok_effect_on T) (hr.mono (by decide)) (by rfl) T.g_effect_on T.f_effect_on.kp (b_effect_on T) .nil passL (pa_cons (pv 6) (pa_cons (pv 10) pa_nil))) pa_nil))))) (pss_cons (ps_if (pt_not (pt_val (pe_call (ok__law_ends_right T) (hr.mono (by decide)) (by rfl) T.g__law_ends_right T.f__law_ends_right.kp (b__law_ends_right T) .nil pass0 (pa_cons (pv 0) (pa_cons (pv 11) (pa_cons (pe_op op_repG (pe_lstG (pa_cons (pv 6) pa_nil)) (pe_op op_add (pe_callB call_len_seq (by rfl) T.z_len PySem.boot_len (pa_cons (pe_op op_catG (pv 9) (pv 10)) pa_nil)) pe_int)) (pa_cons (pe_op op_catG (pv 9) (pv 10)) pa_nil))))))) (pss_one (ps_ret pe_bl)) pss_nil) (pss_cons (ps_cut (ps_set (i := 12) sc__law_great_right.nd rfl (by first | exact Or.inl rfl | exact Or.inr rfl) (pe_op op_catG (pe_lc (own := [("_law_turn", 13)]) (g := gName 13) (by rfl) sc__law_great_right.nd (pi_list (pv 9)) (blkOk_by (own := [("_law_turn", 13)]) (N := ["_law_jug_here", "_law_size", "_law_effect", "_law_width", "_law_times_here", "_law_due", "_law_far", "_law_by", "_law_many", "_law_turns_here", "_law_more", "_law_both", "_law_sizes", "_law_turn"]) (sc := defScope s__law_great_right) (by decide +kernel)) (fun _ _ _ _ _ => (pg_name (i := 13) sc__law_great_right.nd rfl (by first | exact Or.inl rfl | exact Or.inr rfl))) (fun _ _ _ _ _ => pts_nil) (fun _ _ _ _ _ => (pe_call (ok__law_pour T) (hr.mono (by decide)) (by rfl) T.g__law_pour T.f__law_pour.kp (b__law_pour T) .nil pass0 (pa_cons (pv 0) (pa_cons (pe_op op_mulW pe_int (pe_op op_powW pe_int pe_int)) pa_nil))))) (pe_lstG (pa_cons (pe_call (ok__law_pour T) (hr.mono (by decide)) (by rfl) T.g__law_pour T.f__law_pour.kp (b__law_pour T) .nil pass0 (pa_cons (pv 0) (pa_cons (pe_op op_powW pe_int pe_int) pa_nil))) pa_nil))))) (pss_cons (ps_if (pt_not (pt_val (pe_call (ok__law_ends_right T) (hr.mono (by decide)) (by rfl) T.g__law_ends_right T.f__law_ends_right.kp (b__law_ends_right T) .nil pass0 (pa_cons (pv 0) (pa_cons (pe_call (ok_effect_on T) (hr.mono (by decide)) (by rfl) T.g_effect_on T.f_effect_on.kp (b_effect_on T) .nil passL (pa_cons (pv 6) (pa_cons (pv 9) pa_nil))) (pa_cons (pe_op op_repG (pe_lstG (pa_cons (pv 6) pa_nil)) (pe_callB call_len_seq (by rfl) T.z_len PySem.boot_len (pa_cons (pv 12) pa_nil))) (pa_cons (pv 9) pa_nil))))))) (pss_one (ps_ret pe_bl)) pss_nil) (pss_one (ps_ret (pe_call (ok__law_ends_right T) (hr.mono (by decide)) (by rfl) T.g__law_ends_right T.f__law_ends_right.kp (b__law_ends_right T) .nil pass0 (pa_cons (pv 0) (pa_cons (pe_call (ok_effect_through T) (hr.mono (by decide)) (by rfl) T.g_effect_through T.f_effect_through.kp (b_effect_through T) .nil passL (pa_cons (pv 12) (pa_cons (pv 9) pa_nil))) (pa_cons (pv 12) (pa_cons (pv 9) pa_nil))))))))))))))))))))), ?_⟩
    have bm : wd.natAbs < 2 ^ 100 := by omega
    have bm2 : wd.natAbs < 2 ^ 200 := by omega
    have be : e.1.natAbs < 2 ^ 10 ∧ e.2.1.natAbs < 2 ^ 10 ∧ e.2.2.natAbs < 2 ^ 10 := by
      obtain ⟨v1, v2, v3, v4, v5⟩ := v
      omega
    have bds : ∀ f : Eff, Valid size f → f.1.natAbs < 2 ^ 400 ∧ f.2.1.natAbs < 2 ^ 400 ∧ f.2.2.natAbs < 2 ^ 400 := fun f v => by
      obtain ⟨v1, v2, v3, v4, v5⟩ := v
      omega
    have vr := rep_valid z0 v n0
    obtain ⟨b1, b2, b3⟩ := bds _ vr
    obtain ⟨b4, b5, b6⟩ := bds _ v
    have p29 : CPowW 10 29 := by constructor <;> decide +kernel
    have p28 : CPowW 10 28 := by constructor <;> decide +kernel
    have p9 : CPowW 10 9 := by constructor <;> decide +kernel
    -- _law_due
    refine ⟨_, rfl, _, rfl, _, rfl, size, p, e, n, rfl, sqT hp, by omega, by omega, fun _ _ _ p1 H1 n1 e1 h1 => ?_, fun q => absurd q (by omega), fun _ q => absurd v q, fun _ _ q => absurd q (by omega)⟩
    refine ⟨_, rfl, p1, _, wd, rfl, sqT h1, bm2, b1, b2, b3, fun p2 H2 n2 e2 h2 => ?_⟩
    have hp2 := e2 _ _ (e1 _ _ hp)
    refine ⟨_, rfl, _, rfl, _, _, rfl, rfl, wide_mul (b := 10) bm (by omega) (by decide) (by decide) (by decide), _, rfl, _, rfl, p, e, wd, rfl, sqT hp2, bm2, b4, b5, b6, fun p3 H3 n3 e3 h3 => ?_⟩
    have wz : 0 ≤ wd * size := Int.mul_nonneg (by omega) z0
    have bme : (mul wd e).1.natAbs < 2 ^ 200 := Nat.lt_of_lt_of_le (wide_lt bm be.1) (by decide)
    refine ⟨_, rfl, wd * size, p3, mul wd e, n, rfl, sqT h3, by omega, bme, fun _ _ _ p4 H4 n4 e4 h4 => ?_, fun q => absurd q (by omega), fun _ q => absurd (valid_mul w0 v) q, fun _ _ q => absurd q (by omega)⟩
    rw [rep_mul w0] at h4
    refine ⟨_, rfl, ne3 (sqT h4) (sqT (e4 _ _ (e3 _ _ h2))) rfl ⟨_, rfl, ifF rfl ?_⟩⟩
    have e04 : Ex H H4 := e1.trans (e2.trans (e3.trans e4))
    have j4 := hj.ex e04
    -- _law_far, _law_by, _law_many
    refine ⟨_, _, rfl, rfl, p29, _, rfl, _, _, rfl, rfl, p9, j, _, _, rfl, j4, by omega, by decide, by decide, fun d1 H5 d10 d11 e5 j5 => ?_⟩
    refine ⟨_, _, rfl, rfl, _, rfl, j, _, _, rfl, j5, by omega, by decide, by decide, fun d2 H6 d20 d21 e6 j6 => ?_⟩
    refine ⟨_, _, rfl, rfl, _, rfl, _, _, rfl, rfl, p28, _, _, rfl, rfl, wide_mul (a := 10) (b := 100) (by decide) (by decide +kernel) (by decide) (by decide) (by decide), j, _, _, rfl, j6, by omega, by decide +kernel, by decide +kernel, fun d3 H7 d30 d31 e7 j7 => ?_⟩
    refine ⟨_, _, rfl, rfl, _, _, _, rfl, ?_⟩
    have gz : (1000 : Int) < 10 ^ (29 : Int).toNat := by decide +kernel
    have gz2 : (10 : Int) ^ (29 : Int).toNat < 2 ^ 98 := by decide +kernel
    have gz3 : (4 * 10 ^ (28 : Int).toNat : Int) < 2 ^ 98 := by decide +kernel
    have gz4 : (10 ^ (9 : Int).toNat : Int) < 2 ^ 98 := by decide +kernel
    have e47 : Exj j H4 H7 := e5.trans (e6.trans e7)
    have hfar : ∃ far : Int, far = 10 ^ (29 : Int).toNat + d1 ∧ 1000 < far ∧ far < 2 ^ 100 := ⟨_, rfl, by omega, by omega⟩
    have hby : ∃ y : Int, y = 1 + d2 ∧ 1 ≤ y ∧ y ≤ 5 := ⟨_, rfl, by omega, by omega⟩
    have hmy : ∃ m : Int, m = 1 + d3 ∧ 1 ≤ m ∧ m < 2 ^ 100 := ⟨_, rfl, by omega, by omega⟩
    obtain ⟨far, efar, far0, far1⟩ := hfar
    obtain ⟨y, ey, y0, y1⟩ := hby
    obtain ⟨m, em, m0, m1⟩ := hmy
    have by_ : y.natAbs < 2 ^ 10 := by omega
    have bm_ : m.natAbs < 2 ^ 100 := by omega
    obtain ⟨gv, ge⟩ := great_dn (far := far) y0 (by omega) m0
    obtain ⟨hv, he⟩ := great_up (far := far) y0 (by omega) m0
    set_option simprocs false in simp only [← efar, ← ey, ← em]
    refine ⟨fun v H' => ∃ q, v = .ref q ∧ Ex H7 H' ∧ H' q = some (.tup (t3 (if y * m < far then (y * m, y * m, far) else (0, far, far)))), ?_, ?_⟩
    · refine ⟨_, rfl, _, rfl, _, _, rfl, rfl, wide_mul by_ bm_ (by decide) (by decide) (by decide), _, rfl, _, _, rfl, rfl, _, rfl, ?_⟩
      refine ifB (fun c => ?_) (fun c => ?_)
      · refine ⟨_, rfl, _, rfl, _, _, rfl, rfl, wide_mul by_ bm_ (by decide) (by decide) (by decide), _, rfl, _, rfl, _, _, rfl, rfl, wide_mul by_ bm_ (by decide) (by decide) (by decide), _, rfl, (by show 3 ≤ sizeLine; decide), fun p1 H1 n1 e1 h1 => ⟨p1, rfl, e1, ?_⟩⟩
        rw [if_pos (of_decide_eq_true c)]
        exact h1
      · refine ⟨_, rfl, _, rfl, (by show 3 ≤ sizeLine; decide), fun p1 H1 n1 e1 h1 => ⟨p1, rfl, e1, ?_⟩⟩
        rw [if_neg (of_decide_eq_false c)]
        exact h1
    rintro v8 H8 ⟨q8, rfl, e8, h8⟩
    refine ⟨_, rfl, _, rfl, _, rfl, _, rfl, (by show 3 ≤ sizeLine; decide), fun p9' H9 n9 e9 h9 => ?_⟩
    refine ⟨_, rfl, far, p9', (y, y, far), m, rfl, sqT h9, by omega, by show y.natAbs < 2 ^ 200; omega, fun _ _ _ pa Ha na ea ha => ?_, fun q => absurd q (by omega), fun _ q => absurd gv q, fun _ _ q => absurd q (by omega)⟩
    refine ⟨_, rfl, ne3 (sqT ha) (sqT (ea _ _ (e9 _ _ h8))) ge ⟨_, rfl, ifF rfl ?_⟩⟩
    have e7a : Ex H7 Ha := e8.trans (e9.trans ea)
    refine ⟨fun v H' => ∃ q, v = .ref q ∧ Ex Ha H' ∧ H' q = some (.tup (t3 (if y * m < far then (0 - y * m, 0, far - y * m) else (0, 0, 0)))), ?_, ?_⟩
    · refine ⟨_, rfl, _, rfl, _, _, rfl, rfl, wide_mul by_ bm_ (by decide) (by decide) (by decide), _, rfl, _, _, rfl, rfl, _, rfl, ?_⟩
      refine ifB (fun c => ?_) (fun c => ?_)
      · refine ⟨_, rfl, _, rfl, _, _, rfl, rfl, wide_mul by_ bm_ (by decide) (by decide) (by decide), _, _, rfl, rfl, _, rfl, _, rfl, _, rfl, _, _, rfl, rfl, wide_mul by_ bm_ (by decide) (by decide) (by decide), _, _, rfl, rfl, (by show 3 ≤ sizeLine; decide), fun p1 H1 n1 e1 h1 => ⟨p1, rfl, e1, ?_⟩⟩
        rw [if_pos (of_decide_eq_true c)]
        exact h1
      · refine ⟨(by show 3 ≤ sizeLine; decide), fun p1 H1 n1 e1 h1 => ⟨p1, rfl, e1, ?_⟩⟩
        rw [if_neg (of_decide_eq_false c)]
        exact h1
    rintro vb Hb ⟨qb, rfl, eb, hb⟩
    refine ⟨_, rfl, _, rfl, _, _, rfl, rfl, _, rfl, _, rfl, _, _, rfl, rfl, (by show 3 ≤ sizeLine; decide), fun pc Hc nc ec hc => ?_⟩
    refine ⟨_, rfl, far, pc, (0 - y, 0, far - y), m, rfl, sqT hc, by omega, by show (0 - y).natAbs < 2 ^ 200; omega, fun _ _ _ pd Hd nd ed hd => ?_, fun q => absurd q (by omega), fun _ q => absurd hv q, fun _ _ q => absurd q (by omega)⟩
    refine ⟨_, rfl, ne3 (sqT hd) (sqT (ed _ _ (ec _ _ hb))) he ⟨_, rfl, ifF rfl ?_⟩⟩
    have e7d : Ex H7 Hd := e7a.trans (eb.trans (ec.trans ed))
    have jd := j7.ex e7d
    have e0d : Exj j H Hd := (Exj.of e04).trans (e47.trans (Exj.of e7d))
    have f0 : 0 ≤ far := by omega
    -- _law_turns_here
    refine ⟨_, rfl, j, _, _, rfl, jd, by omega, by decide, by decide, fun d4 G1 d40 d41 f1 k1 => ?_⟩
    refine ⟨_, rfl, (by omega), (by omega), fun D1 hD1 => lc_drawR (lo := 0) (n := d4.toNat) (l := -(2 ^ 100)) (h := 2 ^ 100) k1 hD1 (Nat.lt_of_lt_of_le (show d4.toNat < 10 by omega) (by decide)) (fun x => rfl) ?_ ?_⟩
    · intro i H' e' j' hi R kR
      refine ⟨_, rfl, _, _, rfl, rfl, p29, _, _, rfl, rfl, wide_mul (a := 10) (b := 100) (by decide) (by decide +kernel) (by decide) (by decide) (by decide), j, _, _, rfl, j', by omega, by decide +kernel, by decide +kernel, fun v H2 v0 v1 e2 j2 => ?_⟩
      refine ⟨_, _, rfl, rfl, p29, _, _, rfl, rfl, kR _ H2 ?_ ?_ e2 j2⟩
      · omega
      · omega
    intro ta G2 f2 k2 g2 la ba
    have nD1 : D1 ≠ j := k1.ne hD1
    refine ⟨fun σ' G5 => ∃ (pt : Addr) (ts : List Int), σ' = [some (.ref j), some (.int size), some (.ref p), some (.int wd), some (.int n), some (.ref qb), some (.int far), some (.int y), some (.int m), some (.ref pt), none, none, none, none] ∧ pt ≠ j ∧ Jug G5 j (B + 20) ∧ G5 pt = some (.lst (ts.map V.int)) ∧ ts.length ≤ 8 ∧ Exj j Hd G5, ?_, ?_⟩
    · refine ⟨_, rfl, _, rfl, j, _, _, rfl, k2, by omega, by decide, by decide, fun d5 G3 d50 d51 f3 k3 => ?_⟩
      refine ⟨_, rfl, (by omega), (by omega), fun D2 hD2 => lc_drawR (lo := 0) (n := d5.toNat) (l := -(2 ^ 100)) (h := 2 ^ 100) k3 hD2 (Nat.lt_of_lt_of_le (show d5.toNat < 10 by omega) (by decide)) (fun x => rfl) ?_ ?_⟩
      · intro i H' e' j' hi R kR
        refine ⟨_, rfl, j, _, _, rfl, j', by omega, by decide, by decide, fun v H2 v0 v1 e2 j2 => ?_⟩
        exact ⟨_, _, rfl, rfl, kR _ H2 (by omega) (by omega) e2 j2⟩
      intro tb G4 f4 k4 g4 lb bb
      refine ⟨_, _, _, _, rfl, rfl, f4 _ _ nD1 (f3 _ _ nD1 g2), g4, ?_, fun pt G5 m5 f5 g5 => ?_⟩
      · rw [List.length_map, List.length_map]
        exact Nat.le_trans (show ta.length + tb.length ≤ 20 by omega) (by decide)
      rw [← List.map_append] at g5
      exact ⟨pt, ta ++ tb, rfl, k4.ne m5, (k4.ex f5).mono (by omega), g5, by rw [List.length_append]; omega, f1.trans (f2.trans (f3.trans (f4.trans (Exj.of f5))))⟩
    rintro σ' G5 ⟨pt, ts, rfl, npt, k5, g5, lt, fd5⟩
    -- _law_more
    refine ⟨fun σ' G7 => ∃ (D3 : Addr) (us : List Int), σ' = [some (.ref j), some (.int size), some (.ref p), some (.int wd), some (.int n), some (.ref qb), some (.int far), some (.int y), some (.int m), some (.ref pt), some (.ref D3), none, none, none] ∧ D3 ≠ j ∧ Jug G7 j (B + 30) ∧ G7 D3 = some (.lst (us.map V.int)) ∧ us.length ≤ 8 ∧ Exj j G5 G7, ?_, ?_⟩
    · refine ⟨_, rfl, j, _, _, rfl, k5, by omega, by decide, by decide, fun d6 G6 d60 d61 f6 k6 => ?_⟩
      refine ⟨_, rfl, (by omega), (by omega), fun D3 hD3 => lc_drawR (lo := 0) (n := d6.toNat) (l := -(2 ^ 100)) (h := 2 ^ 100) k6 hD3 (Nat.lt_of_lt_of_le (show d6.toNat < 10 by omega) (by decide)) (fun x => rfl) ?_ ?_⟩
      · intro i H' e' j' hi R kR
        refine ⟨_, rfl, _, _, rfl, rfl, p29, _, _, rfl, rfl, wide_mul (a := 10) (b := 100) (by decide) (by decide +kernel) (by decide) (by decide) (by decide), j, _, _, rfl, j', by omega, by decide +kernel, by decide +kernel, fun v H2 v0 v1 e2 j2 => ?_⟩
        refine ⟨_, _, rfl, rfl, p29, _, _, rfl, rfl, kR _ H2 ?_ ?_ e2 j2⟩
        · omega
        · omega
      intro us G7 f7 k7 g7 lu bu
      exact ⟨D3, us, rfl, k6.ne hD3, k7.mono (by omega), g7, by omega, f6.trans f7⟩
    rintro σ' G7 ⟨D3, us, rfl, nD3, k7, g7, lu, f67⟩
    have ht7 := f67 _ _ npt g5
    -- _law_both
    refine ⟨_, rfl, _, rfl, _, rfl, far, pt, ts, rfl, sqI ht7, fun _ q1 F1 n1' d1' c1 => ?_, fun q => absurd q (by omega)⟩
    refine ⟨_, rfl, _, rfl, far, D3, us, rfl, sqI (d1' _ _ g7), fun _ q2 F2 n2' d2' c2 => ?_, fun q => absurd q (by omega)⟩
    refine ⟨far, q1, q2, ein far ts, ein far us, rfl, sqT (d2' _ _ c1), sqT c2, fun _ _ _ q3 F3 n3' d3' c3 => ?_, fun q => absurd q (by omega), fun _ q => absurd (ein_valid f0 ts) q, fun _ _ q => absurd (ein_valid f0 us) q⟩
    rw [join_ein f0] at c3
    have d13 := d1'.trans (d2'.trans d3')
    refine ⟨_, rfl, _, rfl, _, rfl, (by show 1 ≤ sizeLine; decide), fun q4 F4 n4' d4' c4 => ?_⟩
    have d14 := d13.trans d4'
    have lsum : (ts ++ us).length ≤ 20 := by rw [List.length_append]; omega
    refine ⟨_, rfl, _, rfl, _, _, _, _, rfl, rfl, d14 _ _ ht7, d14 _ _ g7, ?_, fun q5 F5 n5' d5' c5 => ?_⟩
    · rw [List.length_map, List.length_map]
      exact Nat.le_trans (show ts.length + us.length ≤ 20 by rw [List.length_append] at lsum; exact lsum) (by decide)
    rw [← List.map_append] at c5
    refine ⟨_, _, rfl, .inl (sqI c5), _, _, rfl, rfl, _, _, _, rfl, rfl, d5' _ _ c4, (by rw [List.length_map]; omega), (by rw [List.length_map]; omega), ?_, fun q6 F6 n6' d6' c6 => ?_⟩
    · rw [List.length_map]
      exact Nat.le_trans (show 1 * (((ts ++ us).length : Int) + 1).toNat ≤ 30 by omega) (by decide)
    rw [List.length_map, repl_one, show (((ts ++ us).length : Int) + 1).toNat = (ts ++ us).length + 1 by omega] at c6
    have d16 := d14.trans (d5'.trans d6')
    refine ⟨_, rfl, _, rfl, _, _, _, _, rfl, rfl, d16 _ _ ht7, d16 _ _ g7, ?_, fun q7 F7 n7' d7' c7 => ?_⟩
    · rw [List.length_map, List.length_map]
      exact Nat.le_trans (show ts.length + us.length ≤ 20 by rw [List.length_append] at lsum; exact lsum) (by decide)
    rw [← List.map_append] at c7
    have d17 := d16.trans d7'
    have jF := k7.ex d17
    have nk7 : ∀ {q : Addr} {F : Hp}, Ex G7 F → F q = none → q ≠ j := fun d n => (k7.ex d).ne n
    have rr0 : ∀ i : Nat, room0 (List.replicate (i + 1) far) = far := fun i => rep_getD far _ 0 (by omega)
    refine ⟨j, q3, q6, q7, List.replicate ((ts ++ us).length + 1) far, ts ++ us, _, rfl, jF, by omega, ?_, d7' _ _ c6, c7, nk7 (d1'.trans d2') n3', nk7 (d14.trans d5') n6', nk7 d16 n7', by simp, repl_nn f0 _, by rw [rr0]; omega, fun G8 f8 k8 => ?_⟩
    · rw [← ein_eff f0]
      exact d7' _ _ (d6' _ _ (d5' _ _ (d4' _ _ c3)))
    refine ⟨_, rfl, iteF ?_⟩
    have ht8 := f8 _ _ npt (d17 _ _ ht7)
    -- _law_sizes
    refine ⟨fun σ' Gc => ∃ (ps : Addr) (sz : List Int), σ' = [some (.ref j), some (.int size), some (.ref p), some (.int wd), some (.int n), some (.ref qb), some (.int far), some (.int y), some (.int m), some (.ref pt), some (.ref D3), some (.ref q3), some (.ref ps), none] ∧ ps ≠ j ∧ Jug Gc j (B + 50) ∧ Gc ps = some (.lst (sz.map V.int)) ∧ sz.length = ts.length + 1 ∧ (∀ n ∈ sz, 0 ≤ n ∧ n ≤ 2 ^ 100) ∧ Exj j G8 Gc, ?_, ?_⟩
    · refine ⟨_, rfl, pt, rfl, ⟨_, sqI ht8⟩, fun D4 hD4 => lc_drawL (K := K) (xs := ts.map V.int) (l := 0) (h := 2 ^ 100) ht8 npt k8 hD4 (by rw [List.length_map]; exact Nat.lt_of_le_of_lt lt (by decide)) (fun x => rfl) ?_ ?_⟩
      · intro i x H' e' j' hi R kR
        rw [List.length_map] at hi
        refine ⟨_, rfl, _, _, rfl, rfl, p29, _, _, rfl, rfl, wide_mul (a := 10) (b := 100) (by decide) (by decide +kernel) (by decide) (by decide) (by decide), j, _, _, rfl, j', by omega, by decide +kernel, by decide +kernel, fun v H2 v0 v1 e2 j2 => ?_⟩
        exact kR v H2 v0 (by omega) e2 j2
      intro xs G9 f9 k9 g9 lx bx
      rw [List.length_map] at lx k9
      have nD4 : D4 ≠ j := k8.ne hD4
      refine ⟨_, rfl, _, _, rfl, rfl, p29, j, _, _, rfl, k9, by omega, by decide +kernel, by decide +kernel, fun vl Ga vl0 vl1 fa ka => ?_⟩
      refine ⟨(by show 1 ≤ sizeLine; decide), fun pb Gb mb fb gb => ?_⟩
      refine ⟨_, _, _, _, rfl, rfl, fb _ _ (fa _ _ nD4 g9), gb, ?_, fun ps Gc mc fc gc => ?_⟩
      · rw [List.length_map]
        exact Nat.le_trans (show xs.length + 1 ≤ 61 by omega) (by decide)
      have nps : ps ≠ j := (ka.ex fb).ne mc
      have hsc : Gc ps = some (.lst ((xs ++ [vl]).map V.int)) := by
        rw [List.map_append]
        exact gc
      have f8c : Exj j G8 Gc := f9.trans (fa.trans (Exj.of (fb.trans fc)))
      have kc := ka.ex (fb.trans fc)
      have htc := f8c _ _ npt ht8
      have lz : (xs ++ [vl]).length = ts.length + 1 := by simp [lx]
      have nz : ∀ n ∈ xs ++ [vl], 0 ≤ n ∧ n ≤ 2 ^ 100 := fun n hn => by
        rcases List.mem_append.mp hn with q | q
        · exact bx n q
        · have : n = vl := by simpa using q
          omega
      exact ⟨ps, xs ++ [vl], rfl, nps, kc.mono (by omega), hsc, lz, nz, f8c⟩
    rintro σ' Gc ⟨ps, sz, rfl, nps, kc, hsc, lz, nz, f8c⟩
    have htc := f8c _ _ npt ht8
    have nn : ∀ n ∈ sz, 0 ≤ n := fun n hn => (nz n hn).1
    have r0b : room0 sz < 2 ^ 150 := by
      unfold room0
      rw [List.getD_eq_getElem?_getD]
      cases e : sz[0]? with
      | none => decide
      | some x =>
        have := (nz x (List.mem_of_getElem? e)).2
        show x < 2 ^ 150
        omega
    -- in one room
    refine ⟨_, rfl, _, rfl, _, rfl, far, pt, ts, rfl, sqI htc, fun _ q8' Gd md fd gd => ?_, fun q => absurd q (by omega)⟩
    refine ⟨_, rfl, (by show 1 ≤ sizeLine; decide), fun pe Ge me fe ge' => ?_⟩
    have fce := fd.trans fe
    refine ⟨_, rfl, _, _, rfl, .inl (sqI (fce _ _ hsc)), _, _, _, rfl, rfl, ge', (by rw [List.length_map]; omega), (by rw [List.length_map]; omega), ?_, fun pf Gf mf ff gf => ?_⟩
    · rw [List.length_map]
      exact Nat.le_trans (show 1 * ((sz.length : Nat) : Int).toNat ≤ 30 by omega) (by decide)
    rw [List.length_map, repl_one, show ((sz.length : Nat) : Int).toNat = ts.length + 1 by omega] at gf
    have fcf := fce.trans ff
    have nkc : ∀ {q : Addr} {F : Hp}, Ex Gc F → F q = none → q ≠ j := fun d n => (kc.ex d).ne n
    refine ⟨_, rfl, j, q8', pf, pt, List.replicate (ts.length + 1) far, ts, _, rfl, kc.ex fcf, by omega, ?_, gf, fcf _ _ htc, kc.ne md, nkc fce mf, npt, by simp, repl_nn f0 _, by rw [rr0]; omega, fun Gg fg kg => ?_⟩
    · rw [← ein_eff f0]
      exact ff _ _ (fe _ _ gd)
    refine ⟨_, rfl, iteF ?_⟩
    have htg := fg _ _ npt (fcf _ _ htc)
    have hsg := fg _ _ nps (fcf _ _ hsc)
    -- through the rooms
    refine ⟨_, rfl, _, rfl, _, rfl, ps, pt, sz, ts, rfl, sqI hsg, sqI htg, fun _ _ ph Gh mh fh gh => ?_, fun i n hn _ q => absurd (nn n (List.mem_of_getElem? hn)) (by omega), fun _ q => absurd lz q⟩
    refine ⟨_, rfl, _, rfl, j, ph, ps, pt, sz, ts, _, rfl, kg.ex fh, by omega, gh, fh _ _ hsg, fh _ _ htg, kg.ne mh, nps, npt, by omega, nn, r0b, fun Gi fi ki => ?_⟩
    refine k Gi (e0d.trans (fd5.trans (f67.trans ((Exj.of d17).trans (f8.trans (f8c.trans ((Exj.of fcf).trans (fg.trans ((Exj.of fh).trans fi))))))))) (ki.mono (by omega))
end
end K35
set_option Elab.async false
set_option linter.all false
set_option maxRecDepth 100000
set_option maxHeartbeats 4000000
namespace K35
open PySem L2 My
instance (size : Int) (e : Eff) : Decidable (Valid size e) := by
  unfold Valid
  infer_instance
/-- what a refusal tells -/
inductive Rf
  | no
  | num (n : Int)
  | val (e : Eff)
def IsRf (H : Hp) (v : V) : Rf → Prop
  | .no => v = .non
  | .num n => ∃ q, v = .ref q ∧ H q = some (.tup [.str "number", .int n])
  | .val e => ∃ q a, v = .ref q ∧ H q = some (.tup [.str "value", .ref a]) ∧ H a = some (.tup (t3 e))
def eR : Rf → PyData
  | .no => .none
  | .num n => .tuple [.str "number", .int n]
  | .val e => .tuple [.str "value", .tuple [.int e.1, .int e.2.1, .int e.2.2]]
theorem IsRf.dp {K : PySem.W.Frag} {H : Hp} {v : V} : ∀ {r : Rf}, IsRf H v r → Dp K H v (eR r)
  | .no, h => by
    cases h
    exact .non
  | .num n, ⟨q, e, h⟩ => by
    subst e
    exact .tup (sqT h) (.cons (.str _) (.cons (.int _) .nil))
  | .val e, ⟨q, a, e1, h, h2⟩ => by
    subst e1
    exact .tup (sqT h) (.cons (.str _) (.cons (.tup (sqT h2) (.cons (.int _) (.cons (.int _) (.cons (.int _) .nil)))) .nil))
theorem eR_shaped : ∀ r, SeqAt.shaped (eR r) = true
  | .no => rfl
  | .num n => by
    have h1 : PyData.canLay0 (eR (.num n)) = true := by
      show (PyData.canLay0 (.str "number") && (PyData.canLay0 (.int n) && true)) = true
      rw [goodI.lay n, show PyData.canLay0 (.str "number") = true by decide +kernel]
      rfl
    have h2 : PyData.depth (eR (.num n)) ≤ 64 := by
      show max (PyData.depth (.str "number")) (max (PyData.depth (.int n)) 0) + 1 ≤ 64
      have e0 : PyData.depth (.str "number") = 0 := rfl
      have e1 : PyData.depth (.int n) = 0 := rfl
      rw [e0, e1]
      omega
    unfold SeqAt.shaped
    rw [h1, decide_eq_true h2]
    rfl
  | .val ⟨a, b, c⟩ => by
    have h1 : PyData.canLay0 (eR (.val (a, b, c))) = true := by
      show (PyData.canLay0 (.str "value") && (PyData.canLay0 (eT PyData.int [a, b, c]) && true)) = true
      rw [(goodT goodI).lay [a, b, c], show PyData.canLay0 (.str "value") = true by decide +kernel]
      rfl
    have h2 : PyData.depth (eR (.val (a, b, c))) ≤ 64 := by
      show max (PyData.depth (.str "value")) (max (PyData.depth (eT PyData.int [a, b, c])) 0) + 1 ≤ 64
      have := (goodT goodI).dep [a, b, c]
      have e0 : PyData.depth (.str "value") = 0 := rfl
      rw [e0]
      omega
    unfold SeqAt.shaped
    rw [h1, decide_eq_true h2]
    rfl
theorem eR_eqv : ∀ r, PyData.eqv (eR r) (eR r) = true
  | .no => rfl
  | .num n => by
    show (PyData.eqv (.str "number") (.str "number") && (PyData.eqv (.int n) (.int n) && true)) = true
    rw [goodI.eqv, decide_eq_true rfl]
    decide
  | .val e => by
    show (PyData.eqv (.str "value") (.str "value") && ((PyData.eqv (.int e.1) (.int e.1) && (PyData.eqv (.int e.2.1) (.int e.2.1) && (PyData.eqv (.int e.2.2) (.int e.2.2) && true))) && true)) = true
    rw [goodI.eqv, goodI.eqv, goodI.eqv, decide_eq_true rfl, decide_eq_true rfl, decide_eq_true rfl]
    decide
/-- only a list was changed -/
theorem IsRf.keep {H H' : Hp} {v : V} {pf : Addr} {vs : List V} (hf : H pf = some (.lst vs)) (e : Exj pf H H') : ∀ {r : Rf}, IsRf H v r → IsRf H' v r
  | .no, h => h
  | .num n, ⟨q, e1, h⟩ => ⟨q, e1, e _ _ (fun z => by rw [z, hf] at h; cases h) h⟩
  | .val _, ⟨q, a, e1, h, h2⟩ => ⟨q, a, e1, e _ _ (fun z => by rw [z, hf] at h; cases h) h, e _ _ (fun z => by rw [z, hf] at h2; cases h2) h2⟩
theorem IsRf.ex {H H' : Hp} {v : V} (e : Ex H H') : ∀ {r : Rf}, IsRf H v r → IsRf H' v r
  | .no, h => h
  | .num n, ⟨q, e1, h⟩ => ⟨q, e1, e _ _ h⟩
  | .val _, ⟨q, a, e1, h, h2⟩ => ⟨q, a, e1, e _ _ h, e _ _ h2⟩
def nxt : Rf → Rf → Rf
  | .no, x => x
  | r, _ => r
/-- the head of the list at pf -/
def Hd (H : Hp) (pf : Addr) (k : Nat) (r : Rf) : Prop := ∃ vs, H pf = some (.lst vs) ∧ vs.length ≤ k ∧ ((vs = [] ∧ r = .no) ∨ ∃ v rest, vs = v :: rest ∧ IsRf H v r ∧ r ≠ .no)
theorem Hd.ex {H H' : Hp} {pf : Addr} {k : Nat} {r : Rf} (e : Ex H H') : Hd H pf k r → Hd H' pf k r
  | ⟨vs, h1, h2, .inl h⟩ => ⟨vs, e _ _ h1, h2, .inl h⟩
  | ⟨vs, h1, h2, .inr ⟨v, rest, h3, h4, h5⟩⟩ => ⟨vs, e _ _ h1, h2, .inr ⟨v, rest, h3, h4.ex e, h5⟩⟩
theorem Hd.mono {H : Hp} {pf : Addr} {k k' : Nat} {r : Rf} (hk : k ≤ k') : Hd H pf k r → Hd H pf k' r
  | ⟨vs, h1, h2, h⟩ => ⟨vs, h1, Nat.le_trans h2 hk, h⟩
/-- one more at its end -/
theorem Hd.app {H : Hp} {pf : Addr} {k : Nat} {r x : Rf} {y : V} {vs : List V} (hf : H pf = some (.lst vs)) (h : Hd H pf k r) (hx : IsRf H y x) (nx : x ≠ .no) : Hd (upd H pf (.lst (vs ++ [y]))) pf (k + 1) (nxt r x) := by
  obtain ⟨vs', h1, h2, h⟩ := h
  have ev : vs' = vs := by
    rw [hf] at h1
    cases h1
    rfl
  subst ev
  have ee : Exj pf H (upd H pf (.lst (vs' ++ [y]))) := (Exj.refl _ _).upd
  refine ⟨vs' ++ [y], upd_same, by simp; omega, ?_⟩
  rcases h with ⟨rfl, rfl⟩ | ⟨v, rest, rfl, h3, h4⟩
  · exact .inr ⟨y, [], rfl, hx.keep hf ee, nx⟩
  · refine .inr ⟨v, rest ++ [y], rfl, ?_, ?_⟩
    · have : nxt r x = r := by
        cases r with
        | no => exact absurd rfl h4
        | num n => rfl
        | val e => rfl
      rw [this]
      exact h3.keep hf ee
    · have : nxt r x = r := by
        cases r with
        | no => exact absurd rfl h4
        | num n => rfl
        | val e => rfl
      rw [this]
      exact h4
def rfd (word odd : Int) (e f : Eff) (t : Int) : Rf :=
  if word = 4 then .num (t + 1) else if odd < 0 then .num odd else if word = 0 then (if ¬ Valid odd e then .val e else if ¬ Valid odd f then .val f else .no)
    else if word = 1 then (if ¬ Valid odd e then .val e else if t < 0 then .num t else .no) else if word = 2 then .no else (if t ≠ -1 then .num (t + 2) else .no)
def sp__law_any : Sp := fun vs H Q _ => ∃ (j : Addr) (size B : Int), vs = [.ref j, .int size] ∧ Jug H j B ∧ B ≤ 2 ^ 50 ∧ 0 ≤ size ∧ size ≤ 100 ∧
  ∀ (p a : Addr) (e : Eff) (H' : Hp), H p = none → Exj j H H' → Jug H' j (B + 5) → H' p = some (.tup [.ref a, .bl (decide (Valid size e))]) → H' a = some (.tup (t3 e)) → p ≠ j → a ≠ j → e.1.natAbs < 2 ^ 10 → Q (.ref p) H'
def sp__law_refused : Sp := fun vs H Q _ => ∃ (word odd t : Int) (a b : Addr) (e f : Eff), vs = [.int word, .int odd, .ref a, .ref b, .int t] ∧ H a = some (.tup (t3 e)) ∧ H b = some (.tup (t3 f)) ∧ e.1.natAbs < 2 ^ 10 ∧ -1 ≤ t ∧ t ≤ 10 ∧ 0 ≤ word ∧ word ≤ 4 ∧
  ∀ v H', Ex H H' → IsRf H' v (rfd word odd e f t) → Q v H'
section
variable {w : World} {K : PySem.W.Frag} {mg : Str → Option Value} {base : Heap}
theorem ok__law_any (T : Txt K mg) : FnOk PR w K mg base CX0 2 T.a__law_any T.d__law_any ["_law_jug_here", "_law_size"] sp__law_any := by
  refine T.f__law_any.ok sc__law_any (fun vs H Q E h => ?_) (fun cdv A outer s H vs Q E hr h => ?_)
  · obtain ⟨j, size, B, rfl, _⟩ := h
    rfl
  · obtain ⟨j, size, B, rfl, hj, hB, z0, z1, k⟩ := h
    refine ⟨_, (pss_cons (ps_par (by rfl) sc__law_any.nd rfl rfl (by decide) rfl rfl (i := 2) (j := 3) (pa_cons (pe_op op_sub (pe_call (ok__law_pour T) (hr.mono (by decide)) (by rfl) T.g__law_pour T.f__law_pour.kp (b__law_pour T) .nil pass0 (pa_cons (pv 0) (pa_cons (pe_op op_add (pv 1) pe_int) pa_nil))) pe_int) (pa_cons (pe_op op_sub (pe_call (ok__law_pour T) (hr.mono (by decide)) (by rfl) T.g__law_pour T.f__law_pour.kp (b__law_pour T) .nil pass0 (pa_cons (pv 0) (pa_cons (pe_op op_add (pv 1) pe_int) pa_nil))) pe_int) pa_nil)) (by rfl)) (pss_cons (ps_set (i := 4) sc__law_any.nd rfl (by first | exact Or.inl rfl | exact Or.inr rfl) (pe_op op_sub (pe_op op_sub (pe_call (ok__law_pour T) (hr.mono (by decide)) (by rfl) T.g__law_pour T.f__law_pour.kp (b__law_pour T) .nil pass0 (pa_cons (pv 0) (pa_cons (pe_op op_add (pe_op op_mulW pe_int (pv 1)) pe_int) pa_nil))) (pv 1)) pe_int)) (pss_cons (ps_cut (ps_if (pt_cmpR op_eq (pe_call (ok__law_pour T) (hr.mono (by decide)) (by rfl) T.g__law_pour T.f__law_pour.kp (b__law_pour T) .nil pass0 (pa_cons (pv 0) (pa_cons pe_int pa_nil))) pe_int (nomark _)) (pss_one (ps_par3 (by rfl) sc__law_any.nd rfl rfl rfl (by decide) (by decide) (by decide) rfl rfl rfl (i := 2) (j := 3) (l := 4) (pa_cons (pv 2) (pa_cons (pv 2) (pa_cons (pe_call (ok__law_pour T) (hr.mono (by decide)) (by rfl) T.g__law_pour T.f__law_pour.kp (b__law_pour T) .nil pass0 (pa_cons (pv 0) (pa_cons pe_int pa_nil))) pa_nil))) (by rfl))) pss_nil)) (pss_cons (ps_cut (ps_set (i := 5) sc__law_any.nd rfl (by first | exact Or.inl rfl | exact Or.inr rfl) (pe_and (pe_chain3 op_le op_le op_le pe_int (pv 2) (pv 3) (pv 1)) (pe_one (pe_cut (pe_ifExp (pt_cmpR op_eq (pv 2) (pv 3) (nomark _)) (pe_cmpR op_eq (pv 4) pe_int (nomark _)) (pe_chain op_le op_le (pe_op op_sub (pv 3) (pv 1)) (pv 4) (pv 2)))))))) (pss_one (ps_ret (pe_tupG (pa_cons (pe_tupG (pa_cons (pv 4) (pa_cons (pv 2) (pa_cons (pv 3) pa_nil)))) (pa_cons (pv 5) pa_nil))))))))), ?_⟩
    refine ⟨_, rfl, _, rfl, _, _, rfl, rfl, j, _, _, rfl, hj, by omega, by omega, by omega, fun l0 H1 l00 l01 e1 j1 => ?_⟩
    refine ⟨_, _, rfl, rfl, _, rfl, _, rfl, _, _, rfl, rfl, j, _, _, rfl, j1, by omega, by omega, by omega, fun u0 H2 u00 u01 e2 j2 => ?_⟩
    refine ⟨_, _, rfl, rfl, _, _, rfl, ?_⟩
    refine ⟨_, rfl, _, rfl, _, _, rfl, rfl, wide_mul (a := 10) (b := 10) (by decide) (by omega) (by decide) (by decide) (by decide), _, _, rfl, rfl, j, _, _, rfl, j2, by omega, by omega, by omega, fun s0 H3 s00 s01 e3 j3 => ?_⟩
    refine ⟨_, rfl, _, _, rfl, rfl, _, _, rfl, rfl, ?_⟩
    refine ⟨fun σ' H' => ∃ l u s : Int, σ' = [some (.ref j), some (.int size), some (.int l), some (.int u), some (.int s), none] ∧ Exj j H H' ∧ Jug H' j (B + 5) ∧ s.natAbs < 2 ^ 10, ?_, ?_⟩
    · refine ⟨_, rfl, j, _, _, rfl, j3, by omega, by decide, by decide, fun c H4 c0 c1 e4 j4 => ?_⟩
      have e04 := e1.trans (e2.trans (e3.trans e4))
      refine ⟨rfl, _, rfl, ?_⟩
      refine ifB (fun q => ?_) (fun q => ?_)
      · refine ⟨_, rfl, _, rfl, _, rfl, j, _, _, rfl, j4, by omega, by decide, by decide, fun d H5 d0 d1 e5 j5 => ?_⟩
        exact ⟨_, _, _, rfl, l0 - 1, l0 - 1, d, rfl, e04.trans e5, j5.mono (by omega), by omega⟩
      · exact ⟨l0 - 1, u0 - 1, s0 - size - 2, rfl, e04, j4.mono (by omega), by omega⟩
    rintro σ' H4 ⟨l, u, s, rfl, e4, j4, bs⟩
    refine ⟨fun σ' H' => H' = H4 ∧ σ' = [some (.ref j), some (.int size), some (.int l), some (.int u), some (.int s), some (.bl (decide (Valid size (s, l, u))))], ?_, ?_⟩
    · have fin : ∀ b : Bool, (b = true ↔ Valid size (s, l, u)) → H4 = H4 ∧ (([some (.ref j), some (.int size), some (.int l), some (.int u), some (.int s), none] : L2.St).set 5 (some (.bl b))) = [some (.ref j), some (.int size), some (.int l), some (.int u), some (.int s), some (.bl (decide (Valid size (s, l, u))))] := fun b hb => by
        refine ⟨rfl, ?_⟩
        have : b = decide (Valid size (s, l, u)) := by
          rw [Bool.eq_iff_iff, decide_eq_true_iff]
          exact hb
        rw [this]
        rfl
      refine ⟨_, rfl, _, _, rfl, rfl, _, rfl, ?_⟩
      refine ifB (fun c => ?_) (fun c => ?_)
      · have c' : 0 ≤ l := of_decide_eq_true c
        refine ⟨_, rfl, _, _, rfl, rfl, _, rfl, ?_⟩
        refine ifB (fun d => ?_) (fun d => ?_)
        · have d' : l ≤ u := of_decide_eq_true d
          refine ⟨_, rfl, _, _, rfl, rfl, _, rfl, ?_⟩
          refine ifB (fun f => ?_) (fun f => ?_)
          · have f' : u ≤ size := of_decide_eq_true f
            refine ⟨fun v H' => H' = H4 ∧ v = .bl (decide (Valid size (s, l, u))), ?_, ?_⟩
            · refine ⟨_, rfl, _, rfl, rfl, _, rfl, ?_⟩
              refine ifB (fun g => ?_) (fun g => ?_)
              · have g' : l = u := by simpa using g
                refine ⟨_, rfl, rfl, rfl, ?_⟩
                congr 1
                rw [decide_eq_decide]
                unfold Valid
                dsimp only
                simp
                omega
              · have g' : ¬ l = u := by simpa using g
                refine ⟨_, rfl, _, rfl, _, _, rfl, rfl, _, rfl, _, _, rfl, rfl, _, rfl, ?_⟩
                refine ifB (fun i => ?_) (fun i => ?_)
                · have i' : u - size ≤ s := of_decide_eq_true i
                  refine ⟨_, rfl, _, _, rfl, rfl, rfl, ?_⟩
                  show V.bl (decide (s ≤ l)) = _
                  congr 1
                  rw [decide_eq_decide]
                  unfold Valid
                  dsimp only
                  omega
                · have i' : ¬ u - size ≤ s := of_decide_eq_false i
                  refine ⟨rfl, ?_⟩
                  congr 1
                  symm
                  refine decide_eq_false fun v => ?_
                  obtain ⟨v1, v2, v3, v4, v5⟩ := v
                  dsimp only at *
                  omega
            · rintro v H' ⟨rfl, rfl⟩
              exact fin _ (decide_eq_true_iff)
          · have f' : ¬ u ≤ size := of_decide_eq_false f
            exact fin _ ⟨(fun q => nomatch q), fun v => absurd v.2.2.1 f'⟩
        · have d' : ¬ l ≤ u := of_decide_eq_false d
          refine ⟨_, rfl, ?_⟩
          refine ifF rfl ?_
          exact fin _ ⟨(fun q => nomatch q), fun v => absurd v.2.1 d'⟩
      · have c' : ¬ 0 ≤ l := of_decide_eq_false c
        refine ⟨_, rfl, ?_⟩
        refine ifF rfl ?_
        exact fin _ ⟨(fun q => nomatch q), fun v => absurd v.1 c'⟩
    rintro σ' H' ⟨rfl, rfl⟩
    refine ⟨_, rfl, _, rfl, _, rfl, (by show 3 ≤ sizeLine; decide), fun p1 H5 n5 e5 h5 => ?_⟩
    refine ⟨_, rfl, (by show 2 ≤ sizeLine; decide), fun p2 H6 n6 e6 h6 => ?_⟩
    have n6' := Evl.fresh_back e5 n6
    exact k p2 p1 (s, l, u) H6 (e4.back (j4.ne n6') n6') (e4.trans (Exj.of (e5.trans e6))) (j4.ex (e5.trans e6)) h6 (e6 _ _ h5) ((j4.ex e5).ne n6) (j4.ne n5) bs
theorem ok__law_refused (T : Txt K mg) : FnOk PR w K mg base CX0 6 T.a__law_refused T.d__law_refused ["_law_word", "_law_size", "_law_one", "_law_other", "_law_times_here"] sp__law_refused := by
  refine T.f__law_refused.ok sc__law_refused (fun vs H Q E h => ?_) (fun cdv A outer s H vs Q E hr h => ?_)
  · obtain ⟨word, odd, t, a, b, e, f, rfl, _⟩ := h
    rfl
  · obtain ⟨word, odd, t, a, b, e, f, rfl, ha, hb, be, t0, t1, w0, w1, k⟩ := h
    refine ⟨_, (pss_cons (ps_cut (ps_try_asN rfl rfl sc__law_refused.nd takes0 (fun W pn xe tk po => (pss_one (ps_if (pt_cmpR op_eq (pv 0) pe_int (nomark _)) (pss_one (ps_expr (pe_callS (ok_joined_effect T) (hr.mono (by decide)) (by rfl) T.g_joined_effect T.f_joined_effect.kp (b_joined_effect T) (fun σ => passAt tk σ) (pa_cons (pv 1) (pa_cons (pv 2) (pa_cons (pv 3) pa_nil)))))) (pss_one (ps_if (pt_cmpR op_eq (pv 0) pe_int (nomark _)) (pss_one (ps_expr (pe_callS (ok_repeated_effect T) (hr.mono (by decide)) (by rfl) T.g_repeated_effect T.f_repeated_effect.kp (b_repeated_effect T) (fun σ => passAt tk σ) (pa_cons (pv 1) (pa_cons (pv 2) (pa_cons (pv 4) pa_nil)))))) (pss_one (ps_if (pt_cmpR op_eq (pv 0) pe_int (nomark _)) (pss_one (ps_expr (pe_callS (ok_effect_on T) (hr.mono (by decide)) (by rfl) T.g_effect_on T.f_effect_on.kp (b_effect_on T) (fun σ => passAt tk σ) (pa_cons (pv 1) (pa_cons (pe_lstG (pa_cons (pv 4) pa_nil)) pa_nil))))) (pss_one (ps_if (pt_cmpR op_eq (pv 0) pe_int (nomark _)) (pss_one (ps_expr (pe_callS (ok_effect_through T) (hr.mono (by decide)) (by rfl) T.g_effect_through T.f_effect_through.kp (b_effect_through T) (fun σ => passAt tk σ) (pa_cons (pe_lstG pa_nil) (pa_cons (pe_op op_repG (pe_lstG (pa_cons (pv 1) pa_nil)) (pe_op op_add (pv 4) pe_int)) pa_nil))))) (pss_one (ps_expr (pe_callS (ok_effect_through T) (hr.mono (by decide)) (by rfl) T.g_effect_through T.f_effect_through.kp (b_effect_through T) (fun σ => passAt tk σ) (pa_cons (pe_lstG (pa_cons pe_int (pa_cons (pv 1) pa_nil))) (pa_cons (pe_op op_repG (pe_lstG (pa_cons pe_int pa_nil)) (pe_op op_add (pv 4) pe_int)) pa_nil)))))))))))))) (.cons (i := 5) rfl rfl ⟨by rfl, by decide, .inl T.g_InvalidNumber⟩ (fun a oe cls d pn hz hf => (pss_one (ps_ret (pe_tupG (pa_cons pe_str (pa_cons (pe_xf T.e_InvalidNumber.xf T.e_InvalidNumber.nov hz hf (pv 5)) pa_nil)))))) (.cons (i := 5) rfl rfl ⟨by rfl, by decide, .inl T.g_InvalidValue⟩ (fun a oe cls d pn hz hf => (pss_one (ps_ret (pe_tupG (pa_cons pe_str (pa_cons (pe_xf T.e_InvalidValue.xf T.e_InvalidValue.nov hz hf (pv 5)) pa_nil)))))) .nil)))) (pss_one (ps_ret pe_non))), ?_⟩
    refine ⟨fun σ' H' => Q .non H', ?_, fun σ' H' q => q⟩
    -- both clauses
    have kN : ∀ (n : Int), rfd word odd e f t = .num n → ∀ H' : Hp, Ex H H' → ∀ p (H2 : Hp), H' p = none → Ex H' H2 → H2 p = some (.tup [.str "number", .int n]) → Q (.ref p) H2 := fun n er H' e1 p H2 np e2 hp => by
      refine k _ H2 (e1.trans e2) ?_
      rw [er]
      exact ⟨p, rfl, hp⟩
    have kV : ∀ (g : Eff) (c : Addr), rfd word odd e f t = .val g → H c = some (.tup (t3 g)) → ∀ H' : Hp, Ex H H' → ∀ p (H2 : Hp), H' p = none → Ex H' H2 → H2 p = some (.tup [.str "value", .ref c]) → Q (.ref p) H2 := fun g c er hc H' e1 p H2 np e2 hp => by
      refine k _ H2 (e1.trans e2) ?_
      rw [er]
      exact ⟨p, c, rfl, hp, e2 _ _ (e1 _ _ hc)⟩
    have k0 : rfd word odd e f t = .no → ∀ H' : Hp, Ex H H' → Q .non H' := fun er H' e1 => by
      refine k _ H' e1 ?_
      rw [er]
      exact rfl
    refine ⟨_, rfl, rfl, _, rfl, ?_⟩
    refine ifB (fun q => ?_) (fun q => ?_)
    · have q' : word = 0 := by simpa using q
      subst q'
      refine ⟨_, rfl, _, rfl, _, rfl, odd, a, b, e, f, rfl, sqT ha, sqT hb, fun c1 c2 c3 p1 H1 n1 e1 h1 => ?_, fun c1 => ?_, fun c1 c2 => ?_, fun c1 c2 c3 => ?_⟩
      · exact k0 (by unfold rfd; rw [if_neg (by decide), if_neg (by omega), if_pos rfl, if_neg (fun z => z c2), if_neg (fun z => z c3)]) _ e1
      · have er : rfd 0 odd e f t = .num odd := by unfold rfd; rw [if_neg (by decide), if_pos c1]
        exact fun d H' hd e' hx => ⟨true, T.x_InvalidNumber_InvalidNumber, fun _ a ha => ⟨_, rfl, rfl, rfl, d, _, _, rfl, hx, rfl, (by show 2 ≤ sizeLine; decide), fun p H2 np e2 hp => kN _ er H' e' p H2 np e2 hp⟩, fun q => nomatch q⟩
      · have er : rfd 0 odd e f t = .val e := by unfold rfd; rw [if_neg (by decide), if_neg (by omega), if_pos rfl, if_pos c2]
        exact fun d H' hd e' hx => ⟨false, T.x_InvalidValue_InvalidNumber, (fun q => nomatch q), fun _ => ⟨true, T.x_InvalidValue_InvalidValue, fun _ a' ha' => ⟨_, rfl, rfl, rfl, d, _, _, rfl, hx, rfl, (by show 2 ≤ sizeLine; decide), fun p H2 np e2 hp => kV e a er ha H' e' p H2 np e2 hp⟩, fun q => nomatch q⟩⟩
      · have er : rfd 0 odd e f t = .val f := by unfold rfd; rw [if_neg (by decide), if_neg (by omega), if_pos rfl, if_neg (fun z => z c2), if_pos c3]
        exact fun d H' hd e' hx => ⟨false, T.x_InvalidValue_InvalidNumber, (fun q => nomatch q), fun _ => ⟨true, T.x_InvalidValue_InvalidValue, fun _ a' ha' => ⟨_, rfl, rfl, rfl, d, _, _, rfl, hx, rfl, (by show 2 ≤ sizeLine; decide), fun p H2 np e2 hp => kV f b er hb H' e' p H2 np e2 hp⟩, fun q => nomatch q⟩⟩
    have n0 : ¬ word = 0 := by simpa using q
    refine ⟨_, rfl, rfl, _, rfl, ?_⟩
    refine ifB (fun q1 => ?_) (fun q1 => ?_)
    · have q' : word = 1 := by simpa using q1
      subst q'
      refine ⟨_, rfl, _, rfl, _, rfl, odd, a, e, t, rfl, sqT ha, by omega, by omega, fun c1 c2 c3 p1 H1 n1 e1 h1 => ?_, fun c1 => ?_, fun c1 c2 => ?_, fun c1 c2 c3 => ?_⟩
      · exact k0 (by unfold rfd; rw [if_neg (by decide), if_neg (by omega), if_neg (by decide), if_pos rfl, if_neg (fun z => z c2), if_neg (by omega)]) _ e1
      · have er : rfd 1 odd e f t = .num odd := by unfold rfd; rw [if_neg (by decide), if_pos c1]
        exact fun d H' hd e' hx => ⟨true, T.x_InvalidNumber_InvalidNumber, fun _ a ha => ⟨_, rfl, rfl, rfl, d, _, _, rfl, hx, rfl, (by show 2 ≤ sizeLine; decide), fun p H2 np e2 hp => kN _ er H' e' p H2 np e2 hp⟩, fun q => nomatch q⟩
      · have er : rfd 1 odd e f t = .val e := by unfold rfd; rw [if_neg (by decide), if_neg (by omega), if_neg (by decide), if_pos rfl, if_pos c2]
        exact fun d H' hd e' hx => ⟨false, T.x_InvalidValue_InvalidNumber, (fun q => nomatch q), fun _ => ⟨true, T.x_InvalidValue_InvalidValue, fun _ a' ha' => ⟨_, rfl, rfl, rfl, d, _, _, rfl, hx, rfl, (by show 2 ≤ sizeLine; decide), fun p H2 np e2 hp => kV e a er ha H' e' p H2 np e2 hp⟩, fun q => nomatch q⟩⟩
      · have er : rfd 1 odd e f t = .num t := by unfold rfd; rw [if_neg (by decide), if_neg (by omega), if_neg (by decide), if_pos rfl, if_neg (fun z => z c2), if_pos c3]
        exact fun d H' hd e' hx => ⟨true, T.x_InvalidNumber_InvalidNumber, fun _ a ha => ⟨_, rfl, rfl, rfl, d, _, _, rfl, hx, rfl, (by show 2 ≤ sizeLine; decide), fun p H2 np e2 hp => kN _ er H' e' p H2 np e2 hp⟩, fun q => nomatch q⟩
    have n1 : ¬ word = 1 := by simpa using q1
    refine ⟨_, rfl, rfl, _, rfl, ?_⟩
    refine ifB (fun q2 => ?_) (fun q2 => ?_)
    · have q' : word = 2 := by simpa using q2
      subst q'
      refine ⟨_, rfl, _, rfl, (by show 1 ≤ sizeLine; decide), fun p1 H1 n1 e1 h1 => ?_⟩
      refine ⟨odd, p1, [t], rfl, sqI h1, fun c1 p2 H2 n2 e2 h2 => ?_, fun c1 => ?_⟩
      · exact k0 (by unfold rfd; rw [if_neg (by decide), if_neg (by omega), if_neg (by decide), if_neg (by decide), if_pos rfl]) _ (e1.trans e2)
      · have er : rfd 2 odd e f t = .num odd := by unfold rfd; rw [if_neg (by decide), if_pos c1]
        exact fun d H' hd e' hx => ⟨true, T.x_InvalidNumber_InvalidNumber, fun _ a ha => ⟨_, rfl, rfl, rfl, d, _, _, rfl, hx, rfl, (by show 2 ≤ sizeLine; decide), fun p H2 np e2 hp => kN _ er H' (e1.trans e') p H2 np e2 hp⟩, fun q => nomatch q⟩
    have n2 : ¬ word = 2 := by simpa using q2
    refine ⟨_, rfl, rfl, _, rfl, ?_⟩
    refine ifB (fun q4 => ?_) (fun q4 => ?_)
    · have q' : word = 4 := by simpa using q4
      subst q'
      refine ⟨(by show 0 ≤ sizeLine; decide), fun p1 H1 n1 e1 h1 => ?_⟩
      refine ⟨_, rfl, (by show 1 ≤ sizeLine; decide), fun p2 H2 n2 e2 h2 => ?_⟩
      refine ⟨_, rfl, _, _, rfl, rfl, _, _, _, rfl, rfl, h2, by omega, by omega, ?_, fun p3 H3 n3 e3 h3 => ?_⟩
      · exact Nat.le_trans (show 1 * (t + 1).toNat ≤ 20 by omega) (by decide)
      rw [repl_one] at h3
      have e13 := e1.trans (e2.trans e3)
      refine ⟨p1, p3, [], List.replicate (t + 1).toNat odd, rfl, sqI (e3 _ _ (e2 _ _ h1)), sqI h3, fun _ z => ?_, fun i n hn => ?_, fun _ _ => ?_⟩
      · simp at z
      · simp at hn
      · have er : rfd 4 odd e f t = .num (((List.replicate (t + 1).toNat odd).length : Nat) : Int) := by
          unfold rfd
          rw [if_pos rfl, List.length_replicate]
          congr 1
          omega
        exact fun d H' hd e' hx => ⟨true, T.x_InvalidNumber_InvalidNumber, fun _ a ha => ⟨_, rfl, rfl, rfl, d, _, _, rfl, hx, rfl, (by show 2 ≤ sizeLine; decide), fun p H2 np e2 hp => kN _ er H' (e13.trans e') p H2 np e2 hp⟩, fun q => nomatch q⟩
    · have n4 : ¬ word = 4 := by simpa using q4
      have q' : word = 3 := by omega
      subst q'
      refine ⟨_, rfl, (by show 2 ≤ sizeLine; decide), fun p1 H1 n1 e1 h1 => ?_⟩
      refine ⟨(by show 1 ≤ sizeLine; decide), fun p2 H2 n2 e2 h2 => ?_⟩
      refine ⟨_, rfl, _, _, rfl, rfl, _, _, _, rfl, rfl, h2, by omega, by omega, ?_, fun p3 H3 n3 e3 h3 => ?_⟩
      · exact Nat.le_trans (show 1 * (t + 2).toNat ≤ 20 by omega) (by decide)
      rw [repl_one] at h3
      have e13 := e1.trans (e2.trans e3)
      refine ⟨p1, p3, [3, odd], List.replicate (t + 2).toNat 0, rfl, sqI (e3 _ _ (e2 _ _ h1)), sqI h3, fun nn z p4 H4 n4 e4 h4 => ?_, fun i n hn hm hneg => ?_, fun nn z => ?_⟩
      · have := nn odd (by simp)
        have z' : (2 : Nat) = (t + 2).toNat + 1 := by simpa using z
        exact k0 (by unfold rfd; rw [if_neg (by decide), if_neg (by omega), if_neg (by decide), if_neg (by decide), if_neg (by decide), if_neg (by omega)]) _ (e13.trans e4)
      · have en : n = odd := by
          match i, hn with
          | 0, hn =>
            have : (3 : Int) = n := Option.some.inj hn
            omega
          | 1, hn => exact (Option.some.inj hn).symm
        subst en
        have er : rfd 3 n e f t = .num n := by unfold rfd; rw [if_neg (by decide), if_pos hneg]
        exact fun d H' hd e' hx => ⟨true, T.x_InvalidNumber_InvalidNumber, fun _ a ha => ⟨_, rfl, rfl, rfl, d, _, _, rfl, hx, rfl, (by show 2 ≤ sizeLine; decide), fun p H2 np e2 hp => kN _ er H' (e13.trans e') p H2 np e2 hp⟩, fun q => nomatch q⟩
      · have := nn odd (by simp)
        have z' : ¬ (2 : Nat) = (t + 2).toNat + 1 := by simpa using z
        have er : rfd 3 odd e f t = .num (((List.replicate (t + 2).toNat (0 : Int)).length : Nat) : Int) := by
          unfold rfd
          rw [if_neg (by decide), if_neg (by omega), if_neg (by decide), if_neg (by decide), if_neg (by decide), if_pos (by omega), List.length_replicate]
          congr 1
          omega
        exact fun d H' hd e' hx => ⟨true, T.x_InvalidNumber_InvalidNumber, fun _ a ha => ⟨_, rfl, rfl, rfl, d, _, _, rfl, hx, rfl, (by show 2 ≤ sizeLine; decide), fun p H2 np e2 hp => kN _ er H' (e13.trans e') p H2 np e2 hp⟩, fun q => nomatch q⟩
end
end K35
set_option Elab.async false
set_option linter.all false
set_option maxRecDepth 100000
set_option maxHeartbeats 4000000
namespace K35
open PySem L2 My
theorem neR {K : PySem.W.Frag} {H : Hp} {u v : V} {r : Rf} {Q : VK} (h1 : IsRf H u r) (h2 : IsRf H v r) (q : Q (.bl false) H) : rNeD K u v H Q :=
  ⟨_, _, h1.dp, h2.dp, eR_shaped r, eR_shaped r, by rw [eR_eqv]; exact q⟩
theorem pick3 {x y z : Int} {n : Int} (h0 : 0 ≤ n) (h1 : n < 3) : ∃ v, atI [V.int x, V.int y, V.int z] n = some (V.int v) ∧ (v = x ∨ v = y ∨ v = z) := by
  have : n = 0 ∨ n = 1 ∨ n = 2 := by omega
  rcases this with rfl | rfl | rfl
  · exact ⟨x, at0, .inl rfl⟩
  · exact ⟨y, at1, .inr (.inl rfl)⟩
  · exact ⟨z, at2, .inr (.inr rfl)⟩
/-- the first one found, bit by bit -/
def f0 (word odd t : Int) : Rf := if word = 4 then .num (t + 1) else if odd < 0 then .num odd else .no
def c1 (c : Prop) [Decidable c] (r x : Rf) : Rf := if c then nxt r x else r
theorem found_is {word odd size t : Int} {e f : Eff} (w0 : 0 ≤ word) (w1 : word ≤ 4) (h : odd = size ∨ odd = -1 - size) (z0 : 0 ≤ size) :
    c1 (word = 3 ∧ t ≠ -1) (c1 (word = 1 ∧ t < 0) (c1 (word = 0 ∧ ¬ Valid size f) (c1 (word < 2 ∧ ¬ Valid size e) (f0 word odd t) (.val e)) (.val f)) (.num t)) (.num (t + 2)) = rfd word odd e f t := by
  unfold f0 rfd
  by_cases h4 : word = 4
  · subst h4
    simp [c1]
  · rw [if_neg h4, if_neg h4]
    by_cases ho : odd < 0
    · rw [if_pos ho, if_pos ho]
      unfold c1
      split <;> split <;> split <;> split <;> rfl
    · rw [if_neg ho, if_neg ho]
      have eo : odd = size := by omega
      subst eo
      rcases (show word = 0 ∨ word = 1 ∨ word = 2 ∨ word = 3 by omega) with rfl | rfl | rfl | rfl
      · by_cases v1 : Valid odd e
        · by_cases v2 : Valid odd f
          · simp [c1, v1, v2]
          · simp [c1, v1, v2, nxt]
        · by_cases v2 : Valid odd f
          · simp [c1, v1, v2, nxt]
          · simp [c1, v1, v2, nxt]
      · by_cases v1 : Valid odd e
        · by_cases v2 : t < 0
          · simp [c1, v1, v2, nxt]
          · simp [c1, v1, v2, nxt]
        · by_cases v2 : t < 0
          · simp [c1, v1, v2, nxt]
          · simp [c1, v1, v2, nxt]
      · simp [c1]
      · by_cases v2 : t = -1
        · simp [c1, v2, nxt]
        · simp [c1, v2, nxt]
def sp__law_errors_right : Sp := fun vs H Q _ => ∃ (j : Addr) (size B : Int), vs = [.ref j, .int size] ∧ Jug H j B ∧ B ≤ 2 ^ 40 ∧ 0 ≤ size ∧ size ≤ 100 ∧ ∀ H', Exj j H H' → Jug H' j (B + 100) → Q (.bl true) H'
section
variable {w : World} {K : PySem.W.Frag} {mg : Str → Option Value} {base : Heap}
theorem ok__law_errors_right (T : Txt K mg) : FnOk PR w K mg base CX0 7 T.a__law_errors_right T.d__law_errors_right ["_law_jug_here", "_law_size"] sp__law_errors_right := by
  refine T.f__law_errors_right.ok sc__law_errors_right (fun vs H Q E h => ?_) (fun cdv A outer s H vs Q E hr h => ?_)
  · obtain ⟨j, size, B, rfl, _⟩ := h
    rfl
  · obtain ⟨j, size, B, rfl, hj, hB, z0, z1, k⟩ := h
    refine ⟨_, (pss_cons (ps_for PassesOwn.never rfl (pi_range1 (by rfl) T.z_range (pa_cons pe_int pa_nil)) (pg_name (i := 2) sc__law_errors_right.nd rfl (by first | exact Or.inl rfl | exact Or.inr rfl)) (pss_cons (ps_par (by rfl) sc__law_errors_right.nd rfl rfl (by decide) rfl rfl (i := 3) (j := 4) (pa_cons (pe_call (ok__law_any T) (hr.mono (by decide)) (by rfl) T.g__law_any T.f__law_any.kp (b__law_any T) .nil pass0 (pa_cons (pv 0) (pa_cons (pv 1) pa_nil))) (pa_cons (pe_call (ok__law_any T) (hr.mono (by decide)) (by rfl) T.g__law_any T.f__law_any.kp (b__law_any T) .nil pass0 (pa_cons (pv 0) (pa_cons (pv 1) pa_nil))) pa_nil)) (by rfl)) (pss_cons (ps_par (by rfl) sc__law_errors_right.nd rfl rfl (by decide) rfl rfl (i := 5) (j := 6) (pa_cons (pe_op op_sub (pe_call (ok__law_pour T) (hr.mono (by decide)) (by rfl) T.g__law_pour T.f__law_pour.kp (b__law_pour T) .nil pass0 (pa_cons (pv 0) (pa_cons pe_int pa_nil))) pe_int) (pa_cons (pe_ix ix_list (pe_lstG (pa_cons (pv 1) (pa_cons (pv 1) (pa_cons (pe_op op_sub (pe_un un_neg pe_int) (pv 1)) pa_nil)))) (pe_call (ok__law_pour T) (hr.mono (by decide)) (by rfl) T.g__law_pour T.f__law_pour.kp (b__law_pour T) .nil pass0 (pa_cons (pv 0) (pa_cons pe_int pa_nil))) (fun _ _ => rfl)) pa_nil)) (by rfl)) (pss_cons (ps_set (i := 7) sc__law_errors_right.nd rfl (by first | exact Or.inl rfl | exact Or.inr rfl) (pe_cut (pe_ifExp (pt_cmpR op_eq (pv 2) pe_int (nomark _)) (pe_lstG (pa_cons (pe_tupG (pa_cons pe_str (pa_cons (pe_op op_add (pv 5) pe_int) pa_nil))) pa_nil)) (pe_cut (pe_ifExp (pt_cmpR op_lt (pv 6) pe_int (nomark _)) (pe_lstG (pa_cons (pe_tupG (pa_cons pe_str (pa_cons (pv 6) pa_nil))) pa_nil)) (pe_lstG pa_nil)))))) (pss_cons (ps_cut (ps_if (PW.pt (pw_and (pt_cmpR op_lt (pv 2) pe_int (nomark _)) (pw_and1 (pt_not (pt_val (pe_ix ix_tup (pv 3) pe_int (fun _ _ => rfl))))))) (pss_one (ps_expr (pe_bm PySem.F.plainAttrs_list PySem.F.slot_list_append PySem.F.type_list_append mt_append (pv 7) (pa_cons (pe_tupG (pa_cons pe_str (pa_cons (pe_ix ix_tup (pv 3) pe_int (fun _ _ => rfl)) pa_nil))) pa_nil)))) pss_nil)) (pss_cons (ps_cut (ps_if (PW.pt (pw_and (pt_cmpR op_eq (pv 2) pe_int (nomark _)) (pw_and1 (pt_not (pt_val (pe_ix ix_tup (pv 4) pe_int (fun _ _ => rfl))))))) (pss_one (ps_expr (pe_bm PySem.F.plainAttrs_list PySem.F.slot_list_append PySem.F.type_list_append mt_append (pv 7) (pa_cons (pe_tupG (pa_cons pe_str (pa_cons (pe_ix ix_tup (pv 4) pe_int (fun _ _ => rfl)) pa_nil))) pa_nil)))) pss_nil)) (pss_cons (ps_cut (ps_if (PW.pt (pw_and (pt_cmpR op_eq (pv 2) pe_int (nomark _)) (pw_and1 (pt_cmpR op_lt (pv 5) pe_int (nomark _))))) (pss_one (ps_expr (pe_bm PySem.F.plainAttrs_list PySem.F.slot_list_append PySem.F.type_list_append mt_append (pv 7) (pa_cons (pe_tupG (pa_cons pe_str (pa_cons (pv 5) pa_nil))) pa_nil)))) pss_nil)) (pss_cons (ps_cut (ps_if (PW.pt (pw_and (pt_cmpR op_eq (pv 2) pe_int (nomark _)) (pw_and1 (pt_cmpR op_ne (pv 5) (pe_un un_neg pe_int) (nomark _))))) (pss_one (ps_expr (pe_bm PySem.F.plainAttrs_list PySem.F.slot_list_append PySem.F.type_list_append mt_append (pv 7) (pa_cons (pe_tupG (pa_cons pe_str (pa_cons (pe_op op_add (pv 5) pe_int) pa_nil))) pa_nil)))) pss_nil)) (pss_one (ps_if (pt_cmpR (op_neD hr.units) (pe_call (ok__law_refused T) (hr.mono (by decide)) (by rfl) T.g__law_refused T.f__law_refused.kp (b__law_refused T) .nil pass0 (pa_cons (pv 2) (pa_cons (pv 6) (pa_cons (pe_ix ix_tup (pv 3) pe_int (fun _ _ => rfl)) (pa_cons (pe_ix ix_tup (pv 4) pe_int (fun _ _ => rfl)) (pa_cons (pv 5) pa_nil)))))) (pe_ix ix_list (pe_op op_catG (pv 7) (pe_lstG (pa_cons pe_non pa_nil))) pe_int (fun _ _ => rfl)) (nomark _)) (pss_one (ps_ret pe_bl)) pss_nil)))))))))) (pss_one (ps_ret pe_bl))), ?_⟩
    refine ⟨_, rfl, (by decide), (by decide), for_range (lo := 0) (n := 5) (fun i σ H' => ∃ v2 v3 v4 v5 v6 v7, σ = [some (.ref j), some (.int size), v2, v3, v4, v5, v6, v7] ∧ Exj j H H' ∧ Jug H' j (B + 20 * i)) ⟨_, _, _, _, _, _, rfl, Exj.refl _ _, hj.mono (by omega)⟩ ?_ ?_⟩
    · rintro i σ H' hi ⟨v2, v3, v4, v5, v6, v7, rfl, e0, j0⟩
      -- _law_one, _law_other
      refine ⟨_, rfl, _, rfl, j, size, _, rfl, j0, by omega, z0, z1, fun p1 a1 e H1 n1 x1 j1 h1 g1 np1 na1 be => ?_⟩
      refine ⟨_, rfl, _, rfl, j, size, _, rfl, j1, by omega, z0, z1, fun p2 a2 f H2 n2 x2 j2 h2 g2 np2 na2 bf => ?_⟩
      refine ⟨_, _, rfl, ?_⟩
      -- _law_times_here, _law_odd
      refine ⟨_, rfl, j, _, _, rfl, j2, by omega, by decide, by decide, fun d1 H3 d10 d11 x3 j3 => ?_⟩
      refine ⟨_, _, rfl, rfl, _, rfl, _, rfl, _, rfl, _, rfl, _, _, rfl, rfl, (by show 3 ≤ sizeLine; decide), fun p4 H4 n4 e4 h4 => ?_⟩
      refine ⟨_, rfl, j, _, _, rfl, j3.ex e4, by omega, by decide, by decide, fun d2 H5 d20 d21 x5 j5 => ?_⟩
      obtain ⟨odd, ho, eo⟩ := pick3 (x := size) (y := size) (z := -1 - size) d20 d21
      refine ⟨_, _, _, _, rfl, rfl, sqI (x5 _ _ (j3.ne n4) h4), ho, _, _, rfl, ?_⟩
      have x25 : Exj j H2 H5 := x3.trans ((Exj.of e4).trans x5)
      have h15 := x25 _ _ np1 (x2 _ _ np1 h1)
      have g15 := x25 _ _ na1 (x2 _ _ na1 g1)
      have h25 := x25 _ _ np2 h2
      have g25 := x25 _ _ na2 g2
      have x05 : Exj j H H5 := e0.trans (x1.trans (x2.trans x25))
      have hodd : odd = size ∨ odd = -1 - size := by omega
      -- _law_found
      refine ⟨fun v H' => ∃ pf, v = .ref pf ∧ Ex H5 H' ∧ H5 pf = none ∧ Hd H' pf 1 (f0 (0 + (i : Int)) odd (d1 - 1)), ?_, ?_⟩
      · refine ⟨_, rfl, rfl, _, rfl, ?_⟩
        refine ifB (fun c => ?_) (fun c => ?_)
        · have c' : 0 + (i : Int) = 4 := by simpa using c
          refine ⟨_, rfl, _, _, rfl, rfl, (by show 2 ≤ sizeLine; decide), fun q1 G1 m1 f1 g1' => ?_⟩
          refine ⟨(by show 1 ≤ sizeLine; decide), fun q2 G2 m2 f2 g2' => ⟨q2, rfl, f1.trans f2, Evl.fresh_back f1 m2, ?_⟩⟩
          unfold f0
          rw [if_pos c']
          exact ⟨_, g2', Nat.le_refl _, .inr ⟨_, _, rfl, ⟨q1, rfl, f2 _ _ g1'⟩, fun z => by cases z⟩⟩
        · have c' : ¬ 0 + (i : Int) = 4 := by simpa using c
          refine ⟨fun v H' => ∃ pf, v = .ref pf ∧ Ex H5 H' ∧ H5 pf = none ∧ Hd H' pf 1 (f0 (0 + (i : Int)) odd (d1 - 1)), ?_, fun _ _ z => z⟩
          refine ⟨_, rfl, _, _, rfl, rfl, _, rfl, ?_⟩
          refine ifB (fun d => ?_) (fun d => ?_)
          · have d' : odd < 0 := of_decide_eq_true d
            refine ⟨_, rfl, (by show 2 ≤ sizeLine; decide), fun q1 G1 m1 f1 g1' => ?_⟩
            refine ⟨(by show 1 ≤ sizeLine; decide), fun q2 G2 m2 f2 g2' => ⟨q2, rfl, f1.trans f2, Evl.fresh_back f1 m2, ?_⟩⟩
            unfold f0
            rw [if_neg c', if_pos d']
            exact ⟨_, g2', Nat.le_refl _, .inr ⟨_, _, rfl, ⟨q1, rfl, f2 _ _ g1'⟩, fun z => by cases z⟩⟩
          · have d' : ¬ odd < 0 := of_decide_eq_false d
            refine ⟨(by show 0 ≤ sizeLine; decide), fun q2 G2 m2 f2 g2' => ⟨q2, rfl, f2, m2, ?_⟩⟩
            unfold f0
            rw [if_neg c', if_neg d']
            exact ⟨_, g2', Nat.zero_le _, .inl ⟨rfl, rfl⟩⟩
      rintro vf H6 ⟨pf, rfl, x6, nf, hd6⟩
      have npf : pf ≠ j := j5.ne nf
      -- what an if with an append leaves
      have keepE : ∀ {G G' : Hp}, (∀ b o, b ≠ pf → H5 b = some o → G b = some o) → Ex G G' → (∀ b o, b ≠ pf → H5 b = some o → G' b = some o) := fun a b x o n h => b _ _ (a x o n h)
      have nx : ∀ {b : Addr} {o : HO}, H5 b = some o → b ≠ pf := fun h => ne_of_none h nf
      -- if _law_word < 2 and not _law_one[1]
      refine ⟨fun σ' G => (σ' = [some (.ref j), some (.int size), some (.int (0 + (i : Int))), some (.ref p1), some (.ref p2), some (.int (d1 - 1)), some (.int odd), some (.ref pf)]) ∧ (∀ b o, b ≠ pf → H5 b = some o → G b = some o) ∧ Hd G pf 2 (c1 (0 + (i : Int) < 2 ∧ ¬ Valid size e) (f0 (0 + (i : Int)) odd (d1 - 1)) (.val e)), ?_, ?_⟩
      · have a6 : ∀ b o, b ≠ pf → H5 b = some o → H6 b = some o := fun b o _ h => x6 _ _ h
        refine ⟨_, rfl, _, _, rfl, rfl, _, rfl, ?_⟩
        refine ifB (fun c => ?_) (fun c => ?_)
        · have c' : 0 + (i : Int) < 2 := of_decide_eq_true c
          refine ⟨_, rfl, _, _, _, _, rfl, rfl, sqT (x6 _ _ h15), at1, _, rfl, ?_⟩
          refine ifB (fun d => ?_) (fun d => ?_)
          · have d' : ¬ Valid size e := by simpa using d
            obtain ⟨vs, q1, q2, q3⟩ := hd6
            have hd6 : Hd H6 pf 1 (f0 (0 + (i : Int)) odd (d1 - 1)) := ⟨vs, q1, q2, q3⟩
            refine ⟨_, rfl, .inl ⟨rfl, _, sqI q1⟩, _, rfl, _, _, _, _, rfl, rfl, sqT (x6 _ _ h15), at0, (by show 2 ≤ sizeLine; decide), fun q G1 m1 y1 g1' => ?_⟩
            refine ⟨_, _, _, rfl, rfl, y1 _ _ q1, Nat.lt_of_le_of_lt q2 (by decide), rfl, ?_, ?_⟩
            · intro b o nb hb
              rw [upd_ne nb]
              exact y1 _ _ (a6 b o nb hb)
            · unfold c1
              rw [if_pos ⟨c', d'⟩]
              exact (hd6.ex y1).app (y1 _ _ q1) ⟨q, a1, rfl, g1', y1 _ _ (x6 _ _ g15)⟩ (fun z => by cases z)
          · have d' : Valid size e := by simpa using d
            refine ⟨rfl, a6, ?_⟩
            unfold c1
            rw [if_neg (fun z => z.2 d')]
            exact hd6.mono (by decide)
        · have c' : ¬ 0 + (i : Int) < 2 := of_decide_eq_false c
          refine ⟨rfl, a6, ?_⟩
          unfold c1
          rw [if_neg (fun z => c' z.1)]
          exact hd6.mono (by decide)
      rintro σ' H7 ⟨rfl, a7, hd7⟩
      generalize e7 : c1 (0 + (i : Int) < 2 ∧ ¬ Valid size e) (f0 (0 + (i : Int)) odd (d1 - 1)) (.val e) = r7 at hd7
      -- if _law_word == 0 and not _law_other[1]
      refine ⟨fun σ' G => (σ' = [some (.ref j), some (.int size), some (.int (0 + (i : Int))), some (.ref p1), some (.ref p2), some (.int (d1 - 1)), some (.int odd), some (.ref pf)]) ∧ (∀ b o, b ≠ pf → H5 b = some o → G b = some o) ∧ Hd G pf 3 (c1 (0 + (i : Int) = 0 ∧ ¬ Valid size f) r7 (.val f)), ?_, ?_⟩
      · refine ⟨_, rfl, rfl, _, rfl, ?_⟩
        refine ifB (fun c => ?_) (fun c => ?_)
        · have c' : 0 + (i : Int) = 0 := by simpa using c
          refine ⟨_, rfl, _, _, _, _, rfl, rfl, sqT (a7 _ _ (nx h25) h25), at1, _, rfl, ?_⟩
          refine ifB (fun d => ?_) (fun d => ?_)
          · have d' : ¬ Valid size f := by simpa using d
            obtain ⟨vs, q1, q2, q3⟩ := hd7
            have hd7 : Hd H7 pf 2 r7 := ⟨vs, q1, q2, q3⟩
            refine ⟨_, rfl, .inl ⟨rfl, _, sqI q1⟩, _, rfl, _, _, _, _, rfl, rfl, sqT (a7 _ _ (nx h25) h25), at0, (by show 2 ≤ sizeLine; decide), fun q G1 m1 y1 g1' => ?_⟩
            refine ⟨_, _, _, rfl, rfl, y1 _ _ q1, Nat.lt_of_le_of_lt q2 (by decide), rfl, ?_, ?_⟩
            · intro b o nb hb
              rw [upd_ne nb]
              exact y1 _ _ (a7 b o nb hb)
            · unfold c1
              rw [if_pos ⟨c', d'⟩]
              exact (hd7.ex y1).app (y1 _ _ q1) ⟨q, a2, rfl, g1', y1 _ _ (a7 _ _ (nx g25) g25)⟩ (fun z => by cases z)
          · have d' : Valid size f := by simpa using d
            refine ⟨rfl, a7, ?_⟩
            unfold c1
            rw [if_neg (fun z => z.2 d')]
            exact hd7.mono (by decide)
        · have c' : ¬ 0 + (i : Int) = 0 := by simpa using c
          refine ⟨rfl, a7, ?_⟩
          unfold c1
          rw [if_neg (fun z => c' z.1)]
          exact hd7.mono (by decide)
      rintro σ' H8 ⟨rfl, a8, hd8⟩
      generalize e8 : c1 (0 + (i : Int) = 0 ∧ ¬ Valid size f) r7 (.val f) = r8 at hd8
      -- if _law_word == 1 and _law_times_here < 0
      refine ⟨fun σ' G => (σ' = [some (.ref j), some (.int size), some (.int (0 + (i : Int))), some (.ref p1), some (.ref p2), some (.int (d1 - 1)), some (.int odd), some (.ref pf)]) ∧ (∀ b o, b ≠ pf → H5 b = some o → G b = some o) ∧ Hd G pf 4 (c1 (0 + (i : Int) = 1 ∧ d1 - 1 < 0) r8 (.num (d1 - 1))), ?_, ?_⟩
      · refine ⟨_, rfl, rfl, _, rfl, ?_⟩
        refine ifB (fun c => ?_) (fun c => ?_)
        · have c' : 0 + (i : Int) = 1 := by simpa using c
          refine ⟨_, rfl, _, _, rfl, rfl, _, rfl, ?_⟩
          refine ifB (fun d => ?_) (fun d => ?_)
          · have d' : d1 - 1 < 0 := of_decide_eq_true d
            obtain ⟨vs, q1, q2, q3⟩ := hd8
            have hd8 : Hd H8 pf 3 r8 := ⟨vs, q1, q2, q3⟩
            refine ⟨_, rfl, .inl ⟨rfl, _, sqI q1⟩, _, rfl, (by show 2 ≤ sizeLine; decide), fun q G1 m1 y1 g1' => ?_⟩
            refine ⟨_, _, _, rfl, rfl, y1 _ _ q1, Nat.lt_of_le_of_lt q2 (by decide), rfl, ?_, ?_⟩
            · intro b o nb hb
              rw [upd_ne nb]
              exact y1 _ _ (a8 b o nb hb)
            · unfold c1
              rw [if_pos ⟨c', d'⟩]
              exact (hd8.ex y1).app (y1 _ _ q1) ⟨q, rfl, g1'⟩ (fun z => by cases z)
          · have d' : ¬ d1 - 1 < 0 := of_decide_eq_false d
            refine ⟨rfl, a8, ?_⟩
            unfold c1
            rw [if_neg (fun z => d' z.2)]
            exact hd8.mono (by decide)
        · have c' : ¬ 0 + (i : Int) = 1 := by simpa using c
          refine ⟨rfl, a8, ?_⟩
          unfold c1
          rw [if_neg (fun z => c' z.1)]
          exact hd8.mono (by decide)
      rintro σ' H9 ⟨rfl, a9, hd9⟩
      generalize e9 : c1 (0 + (i : Int) = 1 ∧ d1 - 1 < 0) r8 (.num (d1 - 1)) = r9 at hd9
      -- if _law_word == 3 and _law_times_here != -1
      refine ⟨fun σ' G => (σ' = [some (.ref j), some (.int size), some (.int (0 + (i : Int))), some (.ref p1), some (.ref p2), some (.int (d1 - 1)), some (.int odd), some (.ref pf)]) ∧ (∀ b o, b ≠ pf → H5 b = some o → G b = some o) ∧ Hd G pf 5 (c1 (0 + (i : Int) = 3 ∧ d1 - 1 ≠ -1) r9 (.num (d1 - 1 + 2))), ?_, ?_⟩
      · refine ⟨_, rfl, rfl, _, rfl, ?_⟩
        refine ifB (fun c => ?_) (fun c => ?_)
        · have c' : 0 + (i : Int) = 3 := by simpa using c
          refine ⟨_, rfl, _, rfl, rfl, _, rfl, ?_⟩
          refine ifB (fun d => ?_) (fun d => ?_)
          · have d' : d1 - 1 ≠ -1 := fun z => by
              rw [decide_eq_true (congrArg V.int z)] at d
              cases d
            obtain ⟨vs, q1, q2, q3⟩ := hd9
            have hd9 : Hd H9 pf 4 r9 := ⟨vs, q1, q2, q3⟩
            refine ⟨_, rfl, .inl ⟨rfl, _, sqI q1⟩, _, rfl, _, _, rfl, rfl, (by show 2 ≤ sizeLine; decide), fun q G1 m1 y1 g1' => ?_⟩
            refine ⟨_, _, _, rfl, rfl, y1 _ _ q1, Nat.lt_of_le_of_lt q2 (by decide), rfl, ?_, ?_⟩
            · intro b o nb hb
              rw [upd_ne nb]
              exact y1 _ _ (a9 b o nb hb)
            · unfold c1
              rw [if_pos ⟨c', d'⟩]
              exact (hd9.ex y1).app (y1 _ _ q1) ⟨q, rfl, g1'⟩ (fun z => by cases z)
          · have d' : d1 - 1 = -1 := Classical.byContradiction fun z => by
              rw [decide_eq_false (fun y => z (V.int.inj y))] at d
              cases d
            refine ⟨rfl, a9, ?_⟩
            unfold c1
            rw [if_neg (fun z => z.2 d')]
            exact hd9.mono (by decide)
        · have c' : ¬ 0 + (i : Int) = 3 := by simpa using c
          refine ⟨rfl, a9, ?_⟩
          unfold c1
          rw [if_neg (fun z => c' z.1)]
          exact hd9.mono (by decide)
      rintro σ' Ha ⟨rfl, aa, hda⟩
      have er : c1 (0 + (i : Int) = 3 ∧ d1 - 1 ≠ -1) r9 (.num (d1 - 1 + 2)) = rfd (0 + (i : Int)) odd e f (d1 - 1) := by
        rw [← e9, ← e8, ← e7]
        exact found_is (by omega) (by omega) hodd z0
      rw [er] at hda
      have h1a := aa _ _ (nx h15) h15
      have g1a := aa _ _ (nx g15) g15
      have h2a := aa _ _ (nx h25) h25
      have g2a := aa _ _ (nx g25) g25
      refine ⟨_, rfl, _, rfl, _, rfl, _, _, _, _, rfl, rfl, sqT h1a, at0, _, rfl, _, _, _, _, rfl, rfl, sqT h2a, at0, _, rfl, _, odd, d1 - 1, a1, a2, e, f, rfl, g1a, g2a, be, by omega, by omega, by omega, by omega, fun v Hb xb hv => ?_⟩
      have hdb := hda.ex xb
      obtain ⟨vs, q1, q2, q3⟩ := hdb
      refine ⟨_, rfl, (by show 1 ≤ sizeLine; decide), fun pc Hc nc ec hc => ?_⟩
      refine ⟨_, _, _, _, rfl, rfl, ec _ _ q1, hc, ?_, fun pd Hd' nd ed hd => ?_⟩
      · exact Nat.le_trans (show vs.length + 1 ≤ 6 by omega) (by decide)
      have hh : ∃ u, atI (vs ++ [V.non]) 0 = some u ∧ IsRf Hd' u (rfd (0 + (i : Int)) odd e f (d1 - 1)) := by
        rcases q3 with ⟨rfl, q4⟩ | ⟨u, rest, rfl, q4, _⟩
        · rw [q4]
          exact ⟨.non, at0, rfl⟩
        · exact ⟨u, at0, (q4.ex ec).ex ed⟩
      obtain ⟨u, hu, hu2⟩ := hh
      have ebd := xb.trans (ec.trans ed)
      refine ⟨_, _, _, _, rfl, rfl, sqI hd, hu, neR ((hv.ex ec).ex ed) hu2 ⟨_, rfl, ifF rfl ?_⟩⟩
      refine ⟨_, _, _, _, _, _, rfl, fun b o nb hb => ?_, ?_⟩
      · have h5 := x05 b o nb hb
        exact ebd _ _ (aa _ _ (nx h5) h5)
      · obtain ⟨y1, y2, y3, hj5, r1, r2, r3, r4⟩ := j5
        refine ⟨y1, y2, y3, ebd _ _ (aa _ _ npf.symm hj5), r1, r2, r3, ?_⟩
        have : ((i + 1 : Nat) : Int) = (i : Int) + 1 := rfl
        omega
    · rintro σ H' ⟨v2, v3, v4, v5, v6, v7, rfl, e, j'⟩
      exact k _ e (j'.mono (by omega))
end
end K35
set_option Elab.async false
set_option linter.all false
set_option maxRecDepth 100000
set_option maxHeartbeats 4000000
namespace K35
open PySem L2 My
def sp_law (K : PySem.W.Frag) : Sp := fun vs H Q _ => ∃ (a : Addr) (ns : List Int), vs = [.ref a] ∧ SqL K H a (ns.map V.int) ∧ ns.length ≤ 63 ∧ ∀ H', Q (.bl true) H'
theorem exj_ex {H H1 H2 : Hp} {j : Addr} (e : Ex H H1) (n : H j = none) (x : Exj j H1 H2) : Ex H H2 := fun b o h => x b o (ne_of_none h n) (e b o h)
theorem pick2 {x y : Int} {n : Int} (h0 : 0 ≤ n) (h1 : n < 2) : ∃ v, atI [V.int x, V.int y] n = some (V.int v) ∧ (v = x ∨ v = y) := by
  have : n = 0 ∨ n = 1 := by omega
  rcases this with rfl | rfl
  · exact ⟨x, at0, .inl rfl⟩
  · exact ⟨y, at1, .inr rfl⟩
section
variable {w : World} {K : PySem.W.Frag} {mg : Str → Option Value} {base : Heap}
theorem ok_law (T : Txt K mg) : FnOk PR w K mg base CX0 8 T.a_law T.d_law ["_law_script"] (sp_law K) := by
  refine T.f_law.ok sc_law (fun vs H Q E h => ?_) (fun cdv A outer s H vs Q E hr h => ?_)
  · obtain ⟨a, ns, rfl, _⟩ := h
    rfl
  · obtain ⟨a, ns, rfl, hs, hl, k⟩ := h
    refine ⟨_, (pss_cons (ps_for PassesOwn.never rfl (pi_range1 (by rfl) T.z_range (pa_cons (pe_callB (call_max2 rfl) (by rfl) T.z_max (by decide +kernel) (pa_cons pe_int (pa_cons (pe_callB (call_min2 rfl) (by rfl) T.z_min (by decide +kernel) (pa_cons pe_int (pa_cons (pe_callB call_len_seq (by rfl) T.z_len PySem.boot_len (pa_cons (pv 0) pa_nil)) pa_nil))) pa_nil))) pa_nil)) (pg_name (i := 1) sc_law.nd rfl (by first | exact Or.inl rfl | exact Or.inr rfl)) (pss_cons (ps_set (i := 2) sc_law.nd rfl (by first | exact Or.inl rfl | exact Or.inr rfl) (pe_call (ok__law_jug T) (hr.mono (by decide)) (by rfl) T.g__law_jug T.f__law_jug.kp (b__law_jug T) .nil pass0 (pa_cons (pv 0) (pa_cons (pv 1) pa_nil)))) (pss_cons (ps_set (i := 3) sc_law.nd rfl (by first | exact Or.inl rfl | exact Or.inr rfl) (pe_ix ix_list (pe_lstG (pa_cons pe_int (pa_cons (pe_op op_add pe_int (pe_call (ok__law_pour T) (hr.mono (by decide)) (by rfl) T.g__law_pour T.f__law_pour.kp (b__law_pour T) .nil pass0 (pa_cons (pv 2) (pa_cons pe_int pa_nil)))) (pa_cons (pe_op op_add pe_int (pe_call (ok__law_pour T) (hr.mono (by decide)) (by rfl) T.g__law_pour T.f__law_pour.kp (b__law_pour T) .nil pass0 (pa_cons (pv 2) (pa_cons (pe_op op_powW pe_int pe_int) pa_nil)))) pa_nil)))) (pe_call (ok__law_pour T) (hr.mono (by decide)) (by rfl) T.g__law_pour T.f__law_pour.kp (b__law_pour T) .nil pass0 (pa_cons (pv 2) (pa_cons pe_int pa_nil))) (fun _ _ => rfl))) (pss_cons (ps_par3 (by rfl) sc_law.nd rfl rfl rfl (by decide) (by decide) (by decide) rfl rfl rfl (i := 4) (j := 5) (l := 6) (pa_cons (pe_call (ok__law_pour T) (hr.mono (by decide)) (by rfl) T.g__law_pour T.f__law_pour.kp (b__law_pour T) .nil pass0 (pa_cons (pv 2) (pa_cons pe_int pa_nil))) (pa_cons (pe_call (ok__law_turns T) (hr.mono (by decide)) (by rfl) T.g__law_turns T.f__law_turns.kp (b__law_turns T) .nil pass0 (pa_cons (pv 2) (pa_cons pe_int (pa_cons pe_int pa_nil)))) (pa_cons (pe_call (ok__law_turns T) (hr.mono (by decide)) (by rfl) T.g__law_turns T.f__law_turns.kp (b__law_turns T) .nil pass0 (pa_cons (pv 2) (pa_cons pe_int (pa_cons pe_int pa_nil)))) pa_nil))) (by rfl)) (pss_cons (ps_if (PW.pt (pw_or (pt_not (pt_val (pe_call (ok__law_single_right T) (hr.mono (by decide)) (by rfl) T.g__law_single_right T.f__law_single_right.kp (b__law_single_right T) .nil pass0 (pa_cons (pv 4) (pa_cons (pv 5) (pa_cons (pv 6) (pa_cons (pv 3) pa_nil))))))) (pw_or1 (pt_not (pt_val (pe_call (ok__law_through_right T) (hr.mono (by decide)) (by rfl) T.g__law_through_right T.f__law_through_right.kp (b__law_through_right T) .nil pass0 (pa_cons (pv 2) (pa_cons (pv 3) pa_nil)))))))) (pss_one (ps_ret pe_bl)) pss_nil) (pss_cons (ps_set (i := 7) sc_law.nd rfl (by first | exact Or.inl rfl | exact Or.inr rfl) (pe_ix ix_list (pe_lstG (pa_cons (pe_call (ok__law_pour T) (hr.mono (by decide)) (by rfl) T.g__law_pour T.f__law_pour.kp (b__law_pour T) .nil pass0 (pa_cons (pv 2) (pa_cons pe_int pa_nil))) (pa_cons (pe_call (ok__law_pour T) (hr.mono (by decide)) (by rfl) T.g__law_pour T.f__law_pour.kp (b__law_pour T) .nil pass0 (pa_cons (pv 2) (pa_cons (pe_op op_powW pe_int pe_int) pa_nil))) pa_nil))) (pe_call (ok__law_pour T) (hr.mono (by decide)) (by rfl) T.g__law_pour T.f__law_pour.kp (b__law_pour T) .nil pass0 (pa_cons (pv 2) (pa_cons pe_int pa_nil))) (fun _ _ => rfl))) (pss_cons (ps_if (PW.pt (pw_or (pt_not (pt_val (pe_call (ok__law_repeated_right T) (hr.mono (by decide)) (by rfl) T.g__law_repeated_right T.f__law_repeated_right.kp (b__law_repeated_right T) .nil pass0 (pa_cons (pv 4) (pa_cons (pe_call (ok_effect_on T) (hr.mono (by decide)) (by rfl) T.g_effect_on T.f_effect_on.kp (b_effect_on T) .nil passL (pa_cons (pv 4) (pa_cons (pv 5) pa_nil))) (pa_cons (pv 5) (pa_cons (pv 7) pa_nil))))))) (pw_or1 (pt_not (pt_val (pe_call (ok__law_errors_right T) (hr.mono (by decide)) (by rfl) T.g__law_errors_right T.f__law_errors_right.kp (b__law_errors_right T) .nil pass0 (pa_cons (pv 2) (pa_cons (pv 4) pa_nil)))))))) (pss_one (ps_ret pe_bl)) pss_nil) (pss_one (ps_if (pt_not (pt_val (pe_call (ok__law_great_right T) (hr.mono (by decide)) (by rfl) T.g__law_great_right T.f__law_great_right.kp (b__law_great_right T) .nil pass0 (pa_cons (pv 2) (pa_cons (pv 4) (pa_cons (pe_call (ok_effect_on T) (hr.mono (by decide)) (by rfl) T.g_effect_on T.f_effect_on.kp (b_effect_on T) .nil passL (pa_cons (pv 4) (pa_cons (pv 5) pa_nil))) (pa_cons (pv 3) (pa_cons (pv 7) pa_nil)))))))) (pss_one (ps_ret pe_bl)) pss_nil))))))))) (pss_one (ps_ret pe_bl))), ?_⟩
    refine ⟨_, rfl, _, _, rfl, .inl hs, _, _, rfl, _, _, rfl, ?_⟩
    have hN : ∃ N : Int, (if (if ((ns.map V.int).length : Int) < 3 then ((ns.map V.int).length : Int) else 3) > 1 then (if ((ns.map V.int).length : Int) < 3 then ((ns.map V.int).length : Int) else 3) else 1) = N ∧ 1 ≤ N ∧ N ≤ 3 := ⟨_, rfl, by split <;> omega, by split <;> split <;> omega⟩
    obtain ⟨N, eN, N1, N3⟩ := hN
    rw [eN]
    refine ⟨_, rfl, (by omega), (by omega), for_range (lo := 0) (n := N.toNat) (fun i σ H' => ∃ v1 v2 v3 v4 v5 v6 v7, σ = [some (.ref a), v1, v2, v3, v4, v5, v6, v7] ∧ Ex H H') ⟨_, _, _, _, _, _, _, rfl, Evl.Ex.refl _⟩ ?_ ?_⟩
    · rintro i σ H0 hi ⟨v1, v2, v3, v4, v5, v6, v7, rfl, e0⟩
      refine ⟨_, rfl, _, rfl, a, ns, _, rfl, Evl.ex_l e0 hs, by omega, by omega, fun j H1 nj e1 j1 => ?_⟩
      have njH : H j = none := Evl.fresh_back e0 nj
      -- _law_width
      refine ⟨_, rfl, j, _, _, rfl, j1, by decide, by decide, by decide, fun d1 H2 d10 d11 x2 j2 => ?_⟩
      refine ⟨_, _, rfl, rfl, _, rfl, _, _, rfl, rfl, (show CPowW 10 25 by constructor <;> decide +kernel), j, _, _, rfl, j2, by decide, by decide +kernel, by decide +kernel, fun d2 H3 d20 d21 x3 j3 => ?_⟩
      have d22 : d2 < 2 ^ 99 := Int.lt_trans d21 (by decide +kernel)
      refine ⟨_, _, rfl, rfl, (by show 3 ≤ sizeLine; decide), fun p4 H4 n4 e4 h4 => ?_⟩
      refine ⟨_, rfl, j, _, _, rfl, j3.ex e4, by decide, by decide, by decide, fun d3 H5 d30 d31 x5 j5 => ?_⟩
      have n4j : p4 ≠ j := j3.ne n4
      obtain ⟨wd, hwd, ewd⟩ := pick3 (x := 1) (y := 2 + d1) (z := 1 + d2) d30 d31
      refine ⟨_, _, _, _, rfl, rfl, sqI (x5 _ _ n4j h4), hwd, ?_⟩
      have wd0 : 0 < wd := by omega
      have wd1 : wd < 2 ^ 100 := by omega
      have x15 : Exj j H1 H5 := x2.trans (x3.trans ((Exj.of e4).trans x5))
      -- _law_size, _law_one, _law_other
      refine ⟨_, rfl, j, _, _, rfl, j5, by decide, by decide, by decide, fun size H6 z0 z1 x6 j6 => ?_⟩
      refine ⟨_, rfl, j, 6, 5, _, rfl, j6, by decide, by decide, by decide, by decide, by decide, fun pa H7 ts n7 x7 j7 h7 l7 b7 => ?_⟩
      have npa : pa ≠ j := j6.ne n7
      refine ⟨_, rfl, j, 6, 5, _, rfl, j7, by decide, by decide, by decide, by decide, by decide, fun pb H8 us n8 x8 j8 h8 l8 b8 => ?_⟩
      have npb : pb ≠ j := j7.ne n8
      refine ⟨_, _, _, rfl, ?_⟩
      have ha8 := x8 _ _ npa h7
      have x18 : Exj j H1 H8 := x15.trans (x6.trans (x7.trans x8))
      -- single, through
      refine ⟨_, rfl, _, rfl, _, rfl, _, rfl, size, pa, pb, ts, us, wd, rfl, ha8, h8, z0, by omega, wd0, wd1, l7, l8, b7, fun H9 e9 => ?_⟩
      refine ⟨_, rfl, ifF rfl ?_⟩
      refine ⟨_, rfl, _, rfl, j, wd, _, rfl, j8.ex e9, by decide, wd0, wd1, fun Ha xa ja => ?_⟩
      refine ⟨_, rfl, iteF ?_⟩
      have haa := xa _ _ npa (e9 _ _ ha8)
      have x1a : Exj j H1 Ha := x18.trans ((Exj.of e9).trans xa)
      -- _law_times_here
      refine ⟨_, rfl, j, _, _, rfl, ja, by decide, by decide, by decide, fun f1 Hb f10 f11 xb jb => ?_⟩
      refine ⟨_, rfl, _, _, rfl, rfl, (show CPowW 10 30 by constructor <;> decide +kernel), j, _, _, rfl, jb, by decide, by decide +kernel, by decide +kernel, fun f2 Hc f20 f21 xc jc => ?_⟩
      have f22 : f2 < 2 ^ 150 := Int.lt_trans f21 (by decide +kernel)
      refine ⟨(by show 2 ≤ sizeLine; decide), fun pd Hd nd ed hd => ?_⟩
      refine ⟨_, rfl, j, _, _, rfl, jc.ex ed, by decide, by decide, by decide, fun f3 He f30 f31 xe je => ?_⟩
      obtain ⟨n, hn, en⟩ := pick2 (x := f1) (y := f2) f30 f31
      refine ⟨_, _, _, _, rfl, rfl, sqI (xe _ _ (jc.ne nd) hd), hn, ?_⟩
      have n0 : 0 ≤ n := by omega
      have n1 : n < 2 ^ 150 := by omega
      have xae : Exj j Ha He := xb.trans (xc.trans ((Exj.of ed).trans xe))
      have hae := xae _ _ npa haa
      -- repeated, errors
      refine ⟨_, rfl, _, rfl, _, rfl, size, pa, ts, rfl, sqI hae, fun _ pf Hf nf ef hf => ?_, fun q => absurd q (by omega)⟩
      refine ⟨_, rfl, _, rfl, size, pf, pa, ts, n, rfl, sqT hf, ef _ _ hae, z0, by omega, l7, n0, n1, fun Hg eg => ?_⟩
      refine ⟨_, rfl, ifF rfl ?_⟩
      have efg := ef.trans eg
      refine ⟨_, rfl, _, rfl, j, size, _, rfl, je.ex efg, by decide, z0, by omega, fun Hh xh jh => ?_⟩
      refine ⟨_, rfl, iteF ?_⟩
      have hah := xh _ _ npa (efg _ _ hae)
      -- great
      refine ⟨_, rfl, _, rfl, _, rfl, _, rfl, size, pa, ts, rfl, sqI hah, fun _ pi Hi ni ei hi' => ?_, fun q => absurd q (by omega)⟩
      refine ⟨_, rfl, _, rfl, j, pi, size, wd, n, _, ein size ts, rfl, jh.ex ei, by decide, hi', jh.ne ni, ein_valid z0 ts, z0, by omega, wd0, wd1, n0, n1, fun Hk xk jk => ?_⟩
      refine ⟨_, rfl, iteF ?_⟩
      have x1k : Exj j H1 Hk := x1a.trans (xae.trans ((Exj.of efg).trans (xh.trans ((Exj.of ei).trans xk))))
      exact ⟨_, _, _, _, _, _, _, rfl, exj_ex (e0.trans e1) njH x1k⟩
    · rintro σ H' ⟨v1, v2, v3, v4, v5, v6, v7, rfl, e⟩
      exact k H'
end
end K35
set_option Elab.async false
set_option linter.all false
set_option maxRecDepth 100000
set_option maxHeartbeats 4000000
namespace K35
open PySem L2 My
theorem all_mk {K : PySem.W.Frag} {h : Heap} {mg : Str → Option Value} (X : K.In h) (G : h.Ns mainGlobals mg)
    {f0 : Addr} {od0 an0 : Option Addr} {sl0 : Array (Option Value)} {oc0 kV0 dc0 pm0 cd0 ct0 : Value}
    (a0 : PySem.W.nsIn K mainGlobals "need_from" = some (some (.ref f0))) (l0 : K.lookup f0 = some ⟨oc0, od0, .func (PySem.W.fnOf "need_from" "need_from" (defArgs s_need_from) (defBody s_need_from) (defScope s_need_from) .none kV0 dc0 pm0 an0 cd0 ct0), sl0⟩) (c0 : PySem.W.codeIn K cd0 "need_from" = true) (k0 : PySem.W.keepIn K (.ref f0) = true)
    {f1 : Addr} {od1 an1 : Option Addr} {sl1 : Array (Option Value)} {oc1 kV1 dc1 pm1 cd1 ct1 : Value}
    (a1 : PySem.W.nsIn K mainGlobals "need_rooms" = some (some (.ref f1))) (l1 : K.lookup f1 = some ⟨oc1, od1, .func (PySem.W.fnOf "need_rooms" "need_rooms" (defArgs s_need_rooms) (defBody s_need_rooms) (defScope s_need_rooms) .none kV1 dc1 pm1 an1 cd1 ct1), sl1⟩) (c1 : PySem.W.codeIn K cd1 "need_rooms" = true) (k1 : PySem.W.keepIn K (.ref f1) = true)
    {f2 : Addr} {od2 an2 : Option Addr} {sl2 : Array (Option Value)} {oc2 kV2 dc2 pm2 cd2 ct2 : Value}
    (a2 : PySem.W.nsIn K mainGlobals "need_effect" = some (some (.ref f2))) (l2 : K.lookup f2 = some ⟨oc2, od2, .func (PySem.W.fnOf "need_effect" "need_effect" (defArgs s_need_effect) (defBody s_need_effect) (defScope s_need_effect) .none kV2 dc2 pm2 an2 cd2 ct2), sl2⟩) (c2 : PySem.W.codeIn K cd2 "need_effect" = true) (k2 : PySem.W.keepIn K (.ref f2) = true)
    {f3 : Addr} {od3 an3 : Option Addr} {sl3 : Array (Option Value)} {oc3 kV3 dc3 pm3 cd3 ct3 : Value}
    (a3 : PySem.W.nsIn K mainGlobals "check_effect" = some (some (.ref f3))) (l3 : K.lookup f3 = some ⟨oc3, od3, .func (PySem.W.fnOf "check_effect" "check_effect" (defArgs s_check_effect) (defBody s_check_effect) (defScope s_check_effect) .none kV3 dc3 pm3 an3 cd3 ct3), sl3⟩) (c3 : PySem.W.codeIn K cd3 "check_effect" = true) (k3 : PySem.W.keepIn K (.ref f3) = true)
    {f4 : Addr} {od4 an4 : Option Addr} {sl4 : Array (Option Value)} {oc4 kV4 dc4 pm4 cd4 ct4 : Value}
    (a4 : PySem.W.nsIn K mainGlobals "between" = some (some (.ref f4))) (l4 : K.lookup f4 = some ⟨oc4, od4, .func (PySem.W.fnOf "between" "between" (defArgs s_between) (defBody s_between) (defScope s_between) .none kV4 dc4 pm4 an4 cd4 ct4), sl4⟩) (c4 : PySem.W.codeIn K cd4 "between" = true) (k4 : PySem.W.keepIn K (.ref f4) = true)
    {f5 : Addr} {od5 an5 : Option Addr} {sl5 : Array (Option Value)} {oc5 kV5 dc5 pm5 cd5 ct5 : Value}
    (a5 : PySem.W.nsIn K mainGlobals "effect_from" = some (some (.ref f5))) (l5 : K.lookup f5 = some ⟨oc5, od5, .func (PySem.W.fnOf "effect_from" "effect_from" (defArgs s_effect_from) (defBody s_effect_from) (defScope s_effect_from) .none kV5 dc5 pm5 an5 cd5 ct5), sl5⟩) (c5 : PySem.W.codeIn K cd5 "effect_from" = true) (k5 : PySem.W.keepIn K (.ref f5) = true)
    {f6 : Addr} {od6 an6 : Option Addr} {sl6 : Array (Option Value)} {oc6 kV6 dc6 pm6 cd6 ct6 : Value}
    (a6 : PySem.W.nsIn K mainGlobals "effect_in" = some (some (.ref f6))) (l6 : K.lookup f6 = some ⟨oc6, od6, .func (PySem.W.fnOf "effect_in" "effect_in" (defArgs s_effect_in) (defBody s_effect_in) (defScope s_effect_in) .none kV6 dc6 pm6 an6 cd6 ct6), sl6⟩) (c6 : PySem.W.codeIn K cd6 "effect_in" = true) (k6 : PySem.W.keepIn K (.ref f6) = true)
    {f7 : Addr} {od7 an7 : Option Addr} {sl7 : Array (Option Value)} {oc7 kV7 dc7 pm7 cd7 ct7 : Value}
    (a7 : PySem.W.nsIn K mainGlobals "effect_on" = some (some (.ref f7))) (l7 : K.lookup f7 = some ⟨oc7, od7, .func (PySem.W.fnOf "effect_on" "effect_on" (defArgs s_effect_on) (defBody s_effect_on) (defScope s_effect_on) .none kV7 dc7 pm7 an7 cd7 ct7), sl7⟩) (c7 : PySem.W.codeIn K cd7 "effect_on" = true) (k7 : PySem.W.keepIn K (.ref f7) = true)
    {f8 : Addr} {od8 an8 : Option Addr} {sl8 : Array (Option Value)} {oc8 kV8 dc8 pm8 cd8 ct8 : Value}
    (a8 : PySem.W.nsIn K mainGlobals "joined_effect" = some (some (.ref f8))) (l8 : K.lookup f8 = some ⟨oc8, od8, .func (PySem.W.fnOf "joined_effect" "joined_effect" (defArgs s_joined_effect) (defBody s_joined_effect) (defScope s_joined_effect) .none kV8 dc8 pm8 an8 cd8 ct8), sl8⟩) (c8 : PySem.W.codeIn K cd8 "joined_effect" = true) (k8 : PySem.W.keepIn K (.ref f8) = true)
    {f9 : Addr} {od9 an9 : Option Addr} {sl9 : Array (Option Value)} {oc9 kV9 dc9 pm9 cd9 ct9 : Value}
    (a9 : PySem.W.nsIn K mainGlobals "repeated_effect" = some (some (.ref f9))) (l9 : K.lookup f9 = some ⟨oc9, od9, .func (PySem.W.fnOf "repeated_effect" "repeated_effect" (defArgs s_repeated_effect) (defBody s_repeated_effect) (defScope s_repeated_effect) .none kV9 dc9 pm9 an9 cd9 ct9), sl9⟩) (c9 : PySem.W.codeIn K cd9 "repeated_effect" = true) (k9 : PySem.W.keepIn K (.ref f9) = true)
    {f10 : Addr} {od10 an10 : Option Addr} {sl10 : Array (Option Value)} {oc10 kV10 dc10 pm10 cd10 ct10 : Value}
    (a10 : PySem.W.nsIn K mainGlobals "effect_through" = some (some (.ref f10))) (l10 : K.lookup f10 = some ⟨oc10, od10, .func (PySem.W.fnOf "effect_through" "effect_through" (defArgs s_effect_through) (defBody s_effect_through) (defScope s_effect_through) .none kV10 dc10 pm10 an10 cd10 ct10), sl10⟩) (c10 : PySem.W.codeIn K cd10 "effect_through" = true) (k10 : PySem.W.keepIn K (.ref f10) = true)
    {f11 : Addr} {od11 an11 : Option Addr} {sl11 : Array (Option Value)} {oc11 kV11 dc11 pm11 cd11 ct11 : Value}
    (a11 : PySem.W.nsIn K mainGlobals "_law_jug" = some (some (.ref f11))) (l11 : K.lookup f11 = some ⟨oc11, od11, .func (PySem.W.fnOf "_law_jug" "_law_jug" (defArgs s__law_jug) (defBody s__law_jug) (defScope s__law_jug) .none kV11 dc11 pm11 an11 cd11 ct11), sl11⟩) (c11 : PySem.W.codeIn K cd11 "_law_jug" = true) (k11 : PySem.W.keepIn K (.ref f11) = true)
    {f12 : Addr} {od12 an12 : Option Addr} {sl12 : Array (Option Value)} {oc12 kV12 dc12 pm12 cd12 ct12 : Value}
    (a12 : PySem.W.nsIn K mainGlobals "_law_pour" = some (some (.ref f12))) (l12 : K.lookup f12 = some ⟨oc12, od12, .func (PySem.W.fnOf "_law_pour" "_law_pour" (defArgs s__law_pour) (defBody s__law_pour) (defScope s__law_pour) .none kV12 dc12 pm12 an12 cd12 ct12), sl12⟩) (c12 : PySem.W.codeIn K cd12 "_law_pour" = true) (k12 : PySem.W.keepIn K (.ref f12) = true)
    {f13 : Addr} {od13 an13 : Option Addr} {sl13 : Array (Option Value)} {oc13 kV13 dc13 pm13 cd13 ct13 : Value}
    (a13 : PySem.W.nsIn K mainGlobals "_law_turns" = some (some (.ref f13))) (l13 : K.lookup f13 = some ⟨oc13, od13, .func (PySem.W.fnOf "_law_turns" "_law_turns" (defArgs s__law_turns) (defBody s__law_turns) (defScope s__law_turns) .none kV13 dc13 pm13 an13 cd13 ct13), sl13⟩) (c13 : PySem.W.codeIn K cd13 "_law_turns" = true) (k13 : PySem.W.keepIn K (.ref f13) = true)
    {f14 : Addr} {od14 an14 : Option Addr} {sl14 : Array (Option Value)} {oc14 kV14 dc14 pm14 cd14 ct14 : Value}
    (a14 : PySem.W.nsIn K mainGlobals "_law_led" = some (some (.ref f14))) (l14 : K.lookup f14 = some ⟨oc14, od14, .func (PySem.W.fnOf "_law_led" "_law_led" (defArgs s__law_led) (defBody s__law_led) (defScope s__law_led) .none kV14 dc14 pm14 an14 cd14 ct14), sl14⟩) (c14 : PySem.W.codeIn K cd14 "_law_led" = true) (k14 : PySem.W.keepIn K (.ref f14) = true)
    {f15 : Addr} {od15 an15 : Option Addr} {sl15 : Array (Option Value)} {oc15 kV15 dc15 pm15 cd15 ct15 : Value}
    (a15 : PySem.W.nsIn K mainGlobals "_law_is_effect" = some (some (.ref f15))) (l15 : K.lookup f15 = some ⟨oc15, od15, .func (PySem.W.fnOf "_law_is_effect" "_law_is_effect" (defArgs s__law_is_effect) (defBody s__law_is_effect) (defScope s__law_is_effect) .none kV15 dc15 pm15 an15 cd15 ct15), sl15⟩) (c15 : PySem.W.codeIn K cd15 "_law_is_effect" = true) (k15 : PySem.W.keepIn K (.ref f15) = true)
    {f16 : Addr} {od16 an16 : Option Addr} {sl16 : Array (Option Value)} {oc16 kV16 dc16 pm16 cd16 ct16 : Value}
    (a16 : PySem.W.nsIn K mainGlobals "_law_times" = some (some (.ref f16))) (l16 : K.lookup f16 = some ⟨oc16, od16, .func (PySem.W.fnOf "_law_times" "_law_times" (defArgs s__law_times) (defBody s__law_times) (defScope s__law_times) .none kV16 dc16 pm16 an16 cd16 ct16), sl16⟩) (c16 : PySem.W.codeIn K cd16 "_law_times" = true) (k16 : PySem.W.keepIn K (.ref f16) = true)
    {f17 : Addr} {od17 an17 : Option Addr} {sl17 : Array (Option Value)} {oc17 kV17 dc17 pm17 cd17 ct17 : Value}
    (a17 : PySem.W.nsIn K mainGlobals "_law_single_right" = some (some (.ref f17))) (l17 : K.lookup f17 = some ⟨oc17, od17, .func (PySem.W.fnOf "_law_single_right" "_law_single_right" (defArgs s__law_single_right) (defBody s__law_single_right) (defScope s__law_single_right) .none kV17 dc17 pm17 an17 cd17 ct17), sl17⟩) (c17 : PySem.W.codeIn K cd17 "_law_single_right" = true) (k17 : PySem.W.keepIn K (.ref f17) = true)
    {f18 : Addr} {od18 an18 : Option Addr} {sl18 : Array (Option Value)} {oc18 kV18 dc18 pm18 cd18 ct18 : Value}
    (a18 : PySem.W.nsIn K mainGlobals "_law_repeated_right" = some (some (.ref f18))) (l18 : K.lookup f18 = some ⟨oc18, od18, .func (PySem.W.fnOf "_law_repeated_right" "_law_repeated_right" (defArgs s__law_repeated_right) (defBody s__law_repeated_right) (defScope s__law_repeated_right) .none kV18 dc18 pm18 an18 cd18 ct18), sl18⟩) (c18 : PySem.W.codeIn K cd18 "_law_repeated_right" = true) (k18 : PySem.W.keepIn K (.ref f18) = true)
    {f19 : Addr} {od19 an19 : Option Addr} {sl19 : Array (Option Value)} {oc19 kV19 dc19 pm19 cd19 ct19 : Value}
    (a19 : PySem.W.nsIn K mainGlobals "_law_great_right" = some (some (.ref f19))) (l19 : K.lookup f19 = some ⟨oc19, od19, .func (PySem.W.fnOf "_law_great_right" "_law_great_right" (defArgs s__law_great_right) (defBody s__law_great_right) (defScope s__law_great_right) .none kV19 dc19 pm19 an19 cd19 ct19), sl19⟩) (c19 : PySem.W.codeIn K cd19 "_law_great_right" = true) (k19 : PySem.W.keepIn K (.ref f19) = true)
    {f20 : Addr} {od20 an20 : Option Addr} {sl20 : Array (Option Value)} {oc20 kV20 dc20 pm20 cd20 ct20 : Value}
    (a20 : PySem.W.nsIn K mainGlobals "_law_ends_right" = some (some (.ref f20))) (l20 : K.lookup f20 = some ⟨oc20, od20, .func (PySem.W.fnOf "_law_ends_right" "_law_ends_right" (defArgs s__law_ends_right) (defBody s__law_ends_right) (defScope s__law_ends_right) .none kV20 dc20 pm20 an20 cd20 ct20), sl20⟩) (c20 : PySem.W.codeIn K cd20 "_law_ends_right" = true) (k20 : PySem.W.keepIn K (.ref f20) = true)
    {f21 : Addr} {od21 an21 : Option Addr} {sl21 : Array (Option Value)} {oc21 kV21 dc21 pm21 cd21 ct21 : Value}
    (a21 : PySem.W.nsIn K mainGlobals "_law_through_right" = some (some (.ref f21))) (l21 : K.lookup f21 = some ⟨oc21, od21, .func (PySem.W.fnOf "_law_through_right" "_law_through_right" (defArgs s__law_through_right) (defBody s__law_through_right) (defScope s__law_through_right) .none kV21 dc21 pm21 an21 cd21 ct21), sl21⟩) (c21 : PySem.W.codeIn K cd21 "_law_through_right" = true) (k21 : PySem.W.keepIn K (.ref f21) = true)
    {f22 : Addr} {od22 an22 : Option Addr} {sl22 : Array (Option Value)} {oc22 kV22 dc22 pm22 cd22 ct22 : Value}
    (a22 : PySem.W.nsIn K mainGlobals "_law_any" = some (some (.ref f22))) (l22 : K.lookup f22 = some ⟨oc22, od22, .func (PySem.W.fnOf "_law_any" "_law_any" (defArgs s__law_any) (defBody s__law_any) (defScope s__law_any) .none kV22 dc22 pm22 an22 cd22 ct22), sl22⟩) (c22 : PySem.W.codeIn K cd22 "_law_any" = true) (k22 : PySem.W.keepIn K (.ref f22) = true)
    {f23 : Addr} {od23 an23 : Option Addr} {sl23 : Array (Option Value)} {oc23 kV23 dc23 pm23 cd23 ct23 : Value}
    (a23 : PySem.W.nsIn K mainGlobals "_law_refused" = some (some (.ref f23))) (l23 : K.lookup f23 = some ⟨oc23, od23, .func (PySem.W.fnOf "_law_refused" "_law_refused" (defArgs s__law_refused) (defBody s__law_refused) (defScope s__law_refused) .none kV23 dc23 pm23 an23 cd23 ct23), sl23⟩) (c23 : PySem.W.codeIn K cd23 "_law_refused" = true) (k23 : PySem.W.keepIn K (.ref f23) = true)
    {f24 : Addr} {od24 an24 : Option Addr} {sl24 : Array (Option Value)} {oc24 kV24 dc24 pm24 cd24 ct24 : Value}
    (a24 : PySem.W.nsIn K mainGlobals "_law_errors_right" = some (some (.ref f24))) (l24 : K.lookup f24 = some ⟨oc24, od24, .func (PySem.W.fnOf "_law_errors_right" "_law_errors_right" (defArgs s__law_errors_right) (defBody s__law_errors_right) (defScope s__law_errors_right) .none kV24 dc24 pm24 an24 cd24 ct24), sl24⟩) (c24 : PySem.W.codeIn K cd24 "_law_errors_right" = true) (k24 : PySem.W.keepIn K (.ref f24) = true)
    {f25 : Addr} {od25 an25 : Option Addr} {sl25 : Array (Option Value)} {oc25 kV25 dc25 pm25 cd25 ct25 : Value}
    (a25 : PySem.W.nsIn K mainGlobals "law" = some (some (.ref f25))) (l25 : K.lookup f25 = some ⟨oc25, od25, .func (PySem.W.fnOf "law" "law" (defArgs s_law) (defBody s_law) (defScope s_law) .none kV25 dc25 pm25 an25 cd25 ct25), sl25⟩) (c25 : PySem.W.codeIn K cd25 "law" = true) (k25 : PySem.W.keepIn K (.ref f25) = true)
    {cD : Addr} {fI cI cdI : Addr} {ocI clI cclI : Value} {odI cldI cddI anI : Option Addr} {kVI docI pmI ctI : Value} {oslI cslI ccsI : Array (Option Value)} {vsI : Array Value} {flI : Str} {tfI : Tok} {cdD : ClassData}
    (aW : PySem.W.nsIn K mainGlobals "WindowError" = some (some (.ref cD))) (iI : PySem.W.findIn K (.ref cD) "__init__" = some (some (.ref fI)))
    (lI : K.lookup fI = some ⟨ocI, odI, .func (PySem.W.fnX "__init__" "WindowError.__init__" (defArgs s_init) (defBody s_init) (defScope s_init) [("__class__", cI)] .none kVI docI pmI anI (.ref cdI) ctI), oslI⟩) (qI : PySem.W.codeIn K (.ref cdI) "WindowError.__init__" = true)
    (ceI : K.lookup cI = some ⟨clI, cldI, .cell (some (.ref cD)), cslI⟩) (fiI : K.lookup cdI = some ⟨cclI, cddI, .fields vsI, ccsI⟩) (viI : vsI[2]? = some (.str flI tfI)) (wiI : ((PR.main.file : Str) == flI) = true) (clD : PySem.W.clsIn K cD = some cdD) (suI : PySem.W.nsIn K mainGlobals "super" = some none)
    (opI : PySem.W.nsIn K cStatics "thirdparty.any" = some none) (tyI : PySem.W.typeIn K (.ref fI) = some (.type "function"))
    {e0 : Addr} {nme0 qe0 : Str} {Ne0 : Addr} {bse0 : List Value} {sne0 : List Str} {sube0 : List Value} {abe0 : Bool} {cole0 : Option Bool} {dde0 : Option Addr} {m0e0 m1e0 m2e0 m3e0 m5e0 : Option Value}
    (aCe0 : PySem.W.nsIn K mainGlobals "WindowError" = some (some (.ref e0))) (xLe0 : K.lookup e0 = some (excClassObj nme0 qe0 e0 Ne0 bse0 PySem.HandSPX.veTail true sne0 sube0 abe0 cole0 dde0 m0e0 m1e0 m2e0 m3e0 m5e0 "ValueError.__new__")) (rve0 : e0 = cD)
    (sae0 : PySem.W.findIn K (.ref e0) "__setattr__" = some (some (.builtin "object.__setattr__"))) (gae0 : PySem.W.findIn K (.ref e0) "__getattribute__" = some (some (.builtin "BaseException.__getattribute__"))) (gge0 : PySem.W.findIn K (.ref e0) "__getattr__" = some none) (nve0 : PySem.W.findIn K (.ref e0) "value" = some none) (ine0 : PySem.W.findIn K (.ref e0) "__init__" = some (some (.ref fI)))
    (kCe0 : PySem.W.keepIn K (.ref e0) = true) (eCe0 : PySem.W.subIn K (.ref e0) (.type "BaseException") = some true) (tCe0 : PySem.W.typeIn K (.ref e0) = some (.type "type")) (hCe0 : PySem.W.hasDictIn K e0 = true) (mre0 : PySem.W.mroIn K e0 (.ref cD) = some true) (ice0 : PySem.W.isClsIn K e0 = true) (sve0 : PySem.W.subIn K (.ref e0) (.type "ValueError") = some true)
    {e1 : Addr} {nme1 qe1 : Str} {Ne1 : Addr} {bse1 : List Value} {sne1 : List Str} {sube1 : List Value} {abe1 : Bool} {cole1 : Option Bool} {dde1 : Option Addr} {m0e1 m1e1 m2e1 m3e1 m5e1 : Option Value}
    (aCe1 : PySem.W.nsIn K mainGlobals "InvalidNumber" = some (some (.ref e1))) (xLe1 : K.lookup e1 = some (excClassObj nme1 qe1 e1 Ne1 bse1 (.ref cD :: PySem.HandSPX.veTail) true sne1 sube1 abe1 cole1 dde1 m0e1 m1e1 m2e1 m3e1 m5e1 "ValueError.__new__")) (rve1 : (e1 == cD) = false)
    (sae1 : PySem.W.findIn K (.ref e1) "__setattr__" = some (some (.builtin "object.__setattr__"))) (gae1 : PySem.W.findIn K (.ref e1) "__getattribute__" = some (some (.builtin "BaseException.__getattribute__"))) (gge1 : PySem.W.findIn K (.ref e1) "__getattr__" = some none) (nve1 : PySem.W.findIn K (.ref e1) "value" = some none) (ine1 : PySem.W.findIn K (.ref e1) "__init__" = some (some (.ref fI)))
    (kCe1 : PySem.W.keepIn K (.ref e1) = true) (eCe1 : PySem.W.subIn K (.ref e1) (.type "BaseException") = some true) (tCe1 : PySem.W.typeIn K (.ref e1) = some (.type "type")) (hCe1 : PySem.W.hasDictIn K e1 = true) (mre1 : PySem.W.mroIn K e1 (.ref cD) = some true) (ice1 : PySem.W.isClsIn K e1 = true) (sve1 : PySem.W.subIn K (.ref e1) (.type "ValueError") = some true)
    {e2 : Addr} {nme2 qe2 : Str} {Ne2 : Addr} {bse2 : List Value} {sne2 : List Str} {sube2 : List Value} {abe2 : Bool} {cole2 : Option Bool} {dde2 : Option Addr} {m0e2 m1e2 m2e2 m3e2 m5e2 : Option Value}
    (aCe2 : PySem.W.nsIn K mainGlobals "InvalidValue" = some (some (.ref e2))) (xLe2 : K.lookup e2 = some (excClassObj nme2 qe2 e2 Ne2 bse2 (.ref cD :: PySem.HandSPX.veTail) true sne2 sube2 abe2 cole2 dde2 m0e2 m1e2 m2e2 m3e2 m5e2 "ValueError.__new__")) (rve2 : (e2 == cD) = false)
    (sae2 : PySem.W.findIn K (.ref e2) "__setattr__" = some (some (.builtin "object.__setattr__"))) (gae2 : PySem.W.findIn K (.ref e2) "__getattribute__" = some (some (.builtin "BaseException.__getattribute__"))) (gge2 : PySem.W.findIn K (.ref e2) "__getattr__" = some none) (nve2 : PySem.W.findIn K (.ref e2) "value" = some none) (ine2 : PySem.W.findIn K (.ref e2) "__init__" = some (some (.ref fI)))
    (kCe2 : PySem.W.keepIn K (.ref e2) = true) (eCe2 : PySem.W.subIn K (.ref e2) (.type "BaseException") = some true) (tCe2 : PySem.W.typeIn K (.ref e2) = some (.type "type")) (hCe2 : PySem.W.hasDictIn K e2 = true) (mre2 : PySem.W.mroIn K e2 (.ref cD) = some true) (ice2 : PySem.W.isClsIn K e2 = true) (sve2 : PySem.W.subIn K (.ref e2) (.type "ValueError") = some true)
    (xm_InvalidNumber_InvalidNumber : PySem.W.subIn K (.ref e1) (.ref e1) = some true)
    (xm_InvalidValue_InvalidNumber : PySem.W.subIn K (.ref e2) (.ref e1) = some false)
    (xm_InvalidValue_InvalidValue : PySem.W.subIn K (.ref e2) (.ref e2) = some true)
    (z_max : PySem.W.nsIn K mainGlobals "max" = some none)
    (z_min : PySem.W.nsIn K mainGlobals "min" = some none)
    (z_sum : PySem.W.nsIn K mainGlobals "sum" = some none)
    (z_zip : PySem.W.nsIn K mainGlobals "zip" = some none)
    (z_len : PySem.W.nsIn K mainGlobals "len" = some none)
    (z_int : PySem.W.nsIn K mainGlobals "int" = some none)
    (z_range : PySem.W.nsIn K mainGlobals "range" = some none)
    (z_enumerate : PySem.W.nsIn K mainGlobals "enumerate" = some none)
    (z_isinstance : PySem.W.nsIn K mainGlobals "isinstance" = some none)
    (z_tuple : PySem.W.nsIn K mainGlobals "tuple" = some none)
    : ∃ T : Txt K mg, T.d_law = PySem.W.fnOf "law" "law" (defArgs s_law) (defBody s_law) (defScope s_law) .none kV25 dc25 pm25 an25 cd25 ct25 ∧ T.a_law = f25 :=
  ⟨⟨f0, _, fun_mk (st := s_need_from) l0 c0 k0, PySem.W.mg_of X G a0, f1, _, fun_mk (st := s_need_rooms) l1 c1 k1, PySem.W.mg_of X G a1, f2, _, fun_mk (st := s_need_effect) l2 c2 k2, PySem.W.mg_of X G a2, f3, _, fun_mk (st := s_check_effect) l3 c3 k3, PySem.W.mg_of X G a3, f4, _, fun_mk (st := s_between) l4 c4 k4, PySem.W.mg_of X G a4, f5, _, fun_mk (st := s_effect_from) l5 c5 k5, PySem.W.mg_of X G a5, f6, _, fun_mk (st := s_effect_in) l6 c6 k6, PySem.W.mg_of X G a6, f7, _, fun_mk (st := s_effect_on) l7 c7 k7, PySem.W.mg_of X G a7, f8, _, fun_mk (st := s_joined_effect) l8 c8 k8, PySem.W.mg_of X G a8, f9, _, fun_mk (st := s_repeated_effect) l9 c9 k9, PySem.W.mg_of X G a9, f10, _, fun_mk (st := s_effect_through) l10 c10 k10, PySem.W.mg_of X G a10, f11, _, fun_mk (st := s__law_jug) l11 c11 k11, PySem.W.mg_of X G a11, f12, _, fun_mk (st := s__law_pour) l12 c12 k12, PySem.W.mg_of X G a12, f13, _, fun_mk (st := s__law_turns) l13 c13 k13, PySem.W.mg_of X G a13, f14, _, fun_mk (st := s__law_led) l14 c14 k14, PySem.W.mg_of X G a14, f15, _, fun_mk (st := s__law_is_effect) l15 c15 k15, PySem.W.mg_of X G a15, f16, _, fun_mk (st := s__law_times) l16 c16 k16, PySem.W.mg_of X G a16, f17, _, fun_mk (st := s__law_single_right) l17 c17 k17, PySem.W.mg_of X G a17, f18, _, fun_mk (st := s__law_repeated_right) l18 c18 k18, PySem.W.mg_of X G a18, f19, _, fun_mk (st := s__law_great_right) l19 c19 k19, PySem.W.mg_of X G a19, f20, _, fun_mk (st := s__law_ends_right) l20 c20 k20, PySem.W.mg_of X G a20, f21, _, fun_mk (st := s__law_through_right) l21 c21 k21, PySem.W.mg_of X G a21, f22, _, fun_mk (st := s__law_any) l22 c22 k22, PySem.W.mg_of X G a22, f23, _, fun_mk (st := s__law_refused) l23 c23 k23, PySem.W.mg_of X G a23, f24, _, fun_mk (st := s__law_errors_right) l24 c24 k24, PySem.W.mg_of X G a24, f25, _, fun_mk (st := s_law) l25 c25 k25, PySem.W.mg_of X G a25, fI, cI, cdI, cD, _, ⟨⟨_, _, _, _, _, _, _, _, rfl, lI⟩, qI, ⟨_, _, _, ceI⟩, ⟨_, _, _, _, _, _, fiI, viI, wiI⟩, ⟨_, clD⟩, PySem.W.mg_none_of X G suI, by rfl, opI⟩, e0, ⟨⟨⟨_, _, _, _, _, _, _, _, _, _, _, _, _, _, _, xLe0, rfl⟩, sae0, eCe0, tCe0, kCe0⟩, ine0, tyI, nve0, mre0, sup_self xLe0 rve0, sve0, ⟨gae0, gge0, eCe0, hCe0⟩⟩, PySem.W.mg_of X G aCe0, e1, ⟨⟨⟨_, _, _, _, _, _, _, _, _, _, _, _, _, _, _, xLe1, rfl⟩, sae1, eCe1, tCe1, kCe1⟩, ine1, tyI, nve1, mre1, sup_child xLe1 rve1, sve1, ⟨gae1, gge1, eCe1, hCe1⟩⟩, PySem.W.mg_of X G aCe1, e2, ⟨⟨⟨_, _, _, _, _, _, _, _, _, _, _, _, _, _, _, xLe2, rfl⟩, sae2, eCe2, tCe2, kCe2⟩, ine2, tyI, nve2, mre2, sup_child xLe2 rve2, sve2, ⟨gae2, gge2, eCe2, hCe2⟩⟩, PySem.W.mg_of X G aCe2, exm_gen eCe1 ice1 tCe1 xm_InvalidNumber_InvalidNumber, exm_gen eCe1 ice1 tCe1 xm_InvalidValue_InvalidNumber, exm_gen eCe2 ice2 tCe2 xm_InvalidValue_InvalidValue, PySem.W.mg_none_of X G z_max, PySem.W.mg_none_of X G z_min, PySem.W.mg_none_of X G z_sum, PySem.W.mg_none_of X G z_zip, PySem.W.mg_none_of X G z_len, PySem.W.mg_none_of X G z_int, PySem.W.mg_none_of X G z_range, PySem.W.mg_none_of X G z_enumerate, PySem.W.mg_none_of X G z_isinstance, PySem.W.mg_none_of X G z_tuple⟩, rfl, rfl⟩
theorem walk {l : PySem.W.OpenLaw} {q : Program} {loose : List Str} {XP : (Str → Option Value) → Heap → Prop} {YP : World → Heap → Prop} {d : DefRec} {K : Params → PySem.W.Frag} (hn : l.most = some 63) (hdf : d.params.defaults = [])
    (hY : ∀ (w : World) (h : Heap), YP w h → (K w.params).In h)
    (F : ∀ (w : World) (mg : Str → Option Value) (fa : Addr) (h : Heap), (K w.params).In h → h.Ns mainGlobals mg → mg d.name = some (.ref fa) →
      ∃ fd : FuncData, (∀ (s : Shared) (u : Value), BindsTo s fd ⟨[u], []⟩ [("_law_script", u)]) ∧ ∀ base : Heap, (K w.params).In base → base.Ns mainGlobals mg → FnOk l.prog w (K w.params) mg base CX0 8 fa fd ["_law_script"] (sp_law (K w.params))) :
    PySem.W.WalkO q loose XP YP l.row.toRowW d [] (fun f vs => PySem.call f vs) :=
  L2.walk_of (n := 63) (k := 8) (x := "_law_script") (CX := fun _ => CX0) (sp := fun w => sp_law (K w.params)) hn (by decide) hdf ⟨rfl, by decide, by decide⟩ hY F (fun _ _ a ns hl _ hS => ⟨a, ns, rfl, hS, hl, fun _ => rfl⟩) fun _ _ _ _ _ z => z
end K35
open PySem PySem.W PyProof.Rows
set_option maxRecDepth 100000 in
set_option maxHeartbeats 0 in
theorem PySem.Challenge.cw_listwindow_k35_effects_on_all_scrolls_holds : PySem.Challenge.rw_listwindow_k35_effects_on_all_scrolls.Holds := by
  w_on; o_law; k_head; (case hw => w_witness2)
  k_fill
  refine K35.walk (l := PySem.Challenge.rw_listwindow_k35_effects_on_all_scrolls) rfl rfl (fun w h Y => PySem.W.kIn_of Y) ?F
  case F =>
    intro w mg fa h KX G hmg
    have T : ∃ T : K35.Txt _ mg, _ ∧ _ := K35.all_mk KX G (by k_is) (by k_is) (by k_is) (by k_is) (by k_is) (by k_is) (by k_is) (by k_is) (by k_is) (by k_is) (by k_is) (by k_is) (by k_is) (by k_is) (by k_is) (by k_is) (by k_is) (by k_is) (by k_is) (by k_is) (by k_is) (by k_is) (by k_is) (by k_is) (by k_is) (by k_is) (by k_is) (by k_is) (by k_is) (by k_is) (by k_is) (by k_is) (by k_is) (by k_is) (by k_is) (by k_is) (by k_is) (by k_is) (by k_is) (by k_is) (by k_is) (by k_is) (by k_is) (by k_is) (by k_is) (by k_is) (by k_is) (by k_is) (by k_is) (by k_is) (by k_is) (by k_is) (by k_is) (by k_is) (by k_is) (by k_is) (by k_is) (by k_is) (by k_is) (by k_is) (by k_is) (by k_is) (by k_is) (by k_is) (by k_is) (by k_is) (by k_is) (by k_is) (by k_is) (by k_is) (by k_is) (by k_is) (by k_is) (by k_is) (by k_is) (by k_is) (by k_is) (by k_is) (by k_is) (by k_is) (by k_is) (by k_is) (by k_is) (by k_is) (by k_is) (by k_is) (by k_is) (by k_is) (by k_is) (by k_is) (by k_is) (by k_is) (by k_is) (by k_is) (by k_is) (by k_is) (by k_is) (by k_is) (by k_is) (by k_is) (by k_is) (by k_is) (by k_is) (by k_is) (by k_is) (by k_is) (by k_is) (by k_is) (by k_is) (by k_is) (by rfl) (by decide +kernel) (by k_is) (by k_is) (by k_is) (by k_is) (by k_is) (by k_is) (by rfl) (by k_is) (by k_is) (by k_is) (by k_is) (by k_is) (by k_is) (by k_is) (by k_is) (by k_is) (by k_is) (by k_is) (by k_is) (by k_is) (by k_is) (by rfl) (by k_is) (by k_is) (by k_is) (by k_is) (by k_is) (by k_is) (by k_is) (by k_is) (by k_is) (by k_is) (by k_is) (by k_is) (by k_is) (by k_is) (by rfl) (by k_is) (by k_is) (by k_is) (by k_is) (by k_is) (by k_is) (by k_is) (by k_is) (by k_is) (by k_is) (by k_is) (by k_is) (by first | rfl | k_is) (by first | rfl | k_is) (by first | rfl | k_is) (by k_is) (by k_is) (by k_is) (by k_is) (by k_is) (by k_is) (by k_is) (by k_is) (by k_is) (by k_is)
    obtain ⟨T, e1, e2⟩ := T
    have e3 := hmg.symm.trans T.g_law
    cases e3
    exact ⟨T.d_law, fun s v => by rw [e1]; exact .of_eq rfl, fun base _ _ => K35.ok_law T⟩
#print axioms PySem.Challenge.cw_listwindow_k35_effects_on_all_scrolls_holds

