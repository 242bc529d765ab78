import PyProof.Rows.All
import Wide.All
import OpenK.AllK
import Wide.FinOn
import HandS.ForMost
import HandS.Wide
import HandS.Style
import HandS.SortInts
import HandS.IsInst
import HandS.Evl
import HandS.Walk
import PySem.Challenge.RW_listwindow_k37_short_forms_in_all_rooms
set_option Elab.async false
set_option linter.all false
set_option maxRecDepth 100000
set_option maxHeartbeats 4000000
/-! My own rules over the hand layer: calls by keywords alone, powers of great ints, what a heap keeps. -/
namespace My
open PySem PySem.Spec PyProof.Rows L2
/-! ### calls by keywords -/
def kg (n m : Nat) (π : List Nat) {α : Type} (us ws : List α) : List α := if us.length = n ∧ ws.length = m then π.filterMap (fun i => (us ++ ws)[i]?) else []
theorem vals_pick {xs : List V} {us : List Value} (r : Vals xs us) : ∀ (π : List Nat), Vals (π.filterMap (fun i => xs[i]?)) (π.filterMap (fun i => us[i]?))
  | [] => .nil
  | i :: π => by
    have ih := vals_pick r π
    cases e : xs[i]? with
    | none =>
      rw [List.filterMap_cons, e, List.filterMap_cons, r.none_of e]
      exact ih
    | some x =>
      obtain ⟨u, h1, h2⟩ := r.get e
      rw [List.filterMap_cons, e, List.filterMap_cons, h1]
      exact .cons h2 ih
theorem kg_rel {n m : Nat} {π : List Nat} {vs zs : List V} {us ws : List Value} (r : Vals vs us) (rz : Vals zs ws) : Vals (kg n m π vs zs) (kg n m π us ws) := by
  unfold kg
  rw [r.length, rz.length]
  split
  · exact vals_pick (r.append rz) π
  · exact .nil
theorem kbinds {K : PySem.W.Frag} {x qual : Str} {st : Stmt} {f : Addr} {fd : FuncData} {ps ks : List Str} (n m : Nat) (π : List Nat) (F : Fun K x qual st f fd) (hp : 0 < ps.length)
    (h : ∀ (kV doc pm : Value) (an : Option Addr) (cdv ct : Value) (us ws : List Value), us.length = n → ws.length = m → bindArgs (PySem.W.fnOf x qual (defArgs st) (defBody st) (defScope st) .none kV doc pm an cdv ct) ⟨us, ks.zip ws⟩ = pure (ps.zip (kg n m π us ws))) : KBinds K fd ps ks (kg n m π) (kg n m π) := by
  obtain ⟨oc, od, kV, doc, pm, an, cdv, ct, osl, rfl, lk, hcd⟩ := F.ex
  refine ⟨fun s us ws _ hl => ?_, fun r rz => kg_rel r rz⟩
  by_cases z : us.length = n ∧ ws.length = m
  · exact .of_eq (h kV doc pm an cdv ct us ws z.1 z.2)
  · unfold kg at hl
    rw [if_neg z] at hl
    rw [← hl] at hp
    exact absurd hp (Nat.lt_irrefl _)
section
variable {X : Cx} {CX : CXT} {k : Nat} {f C : Addr} {fd : FuncData} {ps ks : List Str} {sp : Sp} {E : XK} {x m : Str} {p pos apos kpos : Pos} {kws : List Keyword} {tk : TA} {g : List Value → List Value → List Value} {gV : List V → List V → List V}
/-- f(k = v, ..) -/
theorem pe_callK0 (F : FnOk X.prog X.w X.K X.mg X.base CX k f fd ps sp) (hr : Room k X.A) (hg : Gl X x) (hm : X.mg x = some (.ref f)) (hk : PySem.W.keepIn X.K (.ref f) = true) (hb : KBinds X.K fd ps ks g gV) (hx : Passes CX X E)
    (hkw : PK X kws tk) (hall : (backToKw pos (keywordEach kws X.env)).all (·.1.isSome) = true := by rfl) (hks : (backToKw pos (keywordEach kws X.env)).filterMap (·.1) = ks := by rfl)
    (hdb : (x == ("__debug__" : Str)) = false := by decide)
    (hpl : ((backTo pos (starEach [] X.env)).any (·.1) || (backToKw pos (keywordEach kws X.env)).any (·.1.isNone)) = false := by rfl) :
    PE X (.Call (.Name x p) [] kws pos) (tCallK sp gV E tNil tk) := by
  refine ⟨fun pins s σ H Q I h => ?_⟩
  refine wpAny_Call_Name_kw (ld_glob I hg hm ?_ hdb)
  refine PySem.W.callWith_KW0 (h₀ := X.base) I.ok.mod.kin hk hall ?_ hpl
  refine thn (hkw.run pos pins s σ H _ I h) fun ws s2 ⟨zs, H2, I2, rz, q2⟩ => ⟨I2.kIn, ?_⟩
  rw [hks]
  exact run_fnk (us := []) (vs := []) F hr hb hx I2 .nil rz q2
end
/-! ### powers of great ints -/
/-- a power of together at most 2 ^ 27 bits -/
def CPowW (i j : Int) : Prop := 0 ≤ j ∧ ((i.natAbs.log2 : Int) + 1) * j ≤ 2 ^ 27
theorem bits_le (x : Int) : (Builtin.Int.intBits x : Int) ≤ (x.natAbs.log2 : Int) + 1 := by
  unfold Builtin.Int.intBits
  split <;> omega
theorem op_powW {X : Cx} : OpR X (binaryOp .Pow) (rI CPowW fun i j => .int (i ^ j.toNat)) := opI fun i j _ _ _ _ _ hc q =>
  pow_int hc.1 (Int.le_trans (Int.mul_le_mul_of_nonneg_right (bits_le i) hc.1) hc.2) q
theorem powW_of {i : Int} {j : Nat} {a : Nat} (h : i.natAbs < 2 ^ a) (h0 : 0 < a) (hj : a * j ≤ 2 ^ 27) : CPowW i (j : Int) := by
  have := PySem.Flt.log2_lt_of h0 h
  refine ⟨Int.natCast_nonneg _, ?_⟩
  have e : ((i.natAbs.log2 : Int) + 1) * (j : Int) = (((i.natAbs.log2 + 1) * j : Nat) : Int) := by
    rw [Int.natCast_mul]
    rfl
  rw [e]
  have : (i.natAbs.log2 + 1) * j ≤ a * j := Nat.mul_le_mul_right _ this
  have : (i.natAbs.log2 + 1) * j ≤ 2 ^ 27 := Nat.le_trans this hj
  omega
/-! ### heaps -/
abbrev Ex := Evl.Ex
/-- all but the object at j is as it was -/
def Exj (j : Addr) (H H' : Hp) : Prop := ∀ b o, b ≠ j → H b = some o → H' b = some o
theorem Exj.refl (j : Addr) (H : Hp) : Exj j H H := fun _ _ _ h => h
theorem Exj.trans {j : Addr} {H H1 H2 : Hp} (a : Exj j H H1) (b : Exj j H1 H2) : Exj j H H2 := fun x o n h => b x o n (a x o n h)
theorem Exj.of {j : Addr} {H H' : Hp} (a : Ex H H') : Exj j H H' := fun x o _ h => a x o h
theorem Exj.upd {j : Addr} {H H' : Hp} {o : HO} (a : Exj j H H') : Exj j H (upd H' j o) := fun x u n h => by
  rw [upd_ne n]
  exact a x u n h
theorem Exj.new {j p : Addr} {H H' : Hp} {o : HO} (a : Exj j H H') (h : H' p = none) : Exj j H (L2.upd H' p o) := fun x u n e => by
  have := a x u n e
  rw [upd_ne (ne_of_none this h)]
  exact this
theorem Exj.sq {K : PySem.W.Frag} {j : Addr} {H H' : Hp} {a : Addr} {xs : List V} (e : Exj j H H') (n : a ≠ j) (h : SqL K H a xs) : SqL K H' a xs := by
  rcases h with (h | ⟨o, h⟩) | h
  · exact .inl (.inl (e _ _ n h))
  · exact .inl (.inr ⟨o, e _ _ n h⟩)
  · exact .inr h
/-- a new object, its heap by name -/
theorem newO {H : Hp} {o : HO} {P : V → Hp → Prop} (k : ∀ p H', H p = none → Ex H H' → H' p = some o → P (.ref p) H') : ∀ p, H p = none → P (.ref p) (L2.upd H p o) := fun p hp => k p _ hp (Evl.Ex.new hp) upd_same
theorem sqI {K : PySem.W.Frag} {H : Hp} {a : Addr} {xs : List V} (h : H a = some (.lst xs)) : SqL K H a xs := .inl (.inl h)
theorem sqT {K : PySem.W.Frag} {H : Hp} {a : Addr} {xs : List V} (h : H a = some (.tup xs)) : SqT K H a xs := .inl (.inl h)
/-! ### data: how a thing of Lean stands in the heap -/
/-- a way of writing things as data: it can be laid, it is no deeper than n, equal data are equal things -/
structure Good {α : Type} [DecidableEq α] (e : α → PyData) (n : Nat) : Prop where
  lay : ∀ x, (e x).canLay0 = true
  dep : ∀ x, (e x).depth ≤ n
  eqv : ∀ x y, PyData.eqv (e x) (e y) = decide (x = y)
def eL {α : Type} (e : α → PyData) (xs : List α) : PyData := .list (xs.map e)
def eT {α : Type} (e : α → PyData) (xs : List α) : PyData := .tuple (xs.map e)
def eP {α β : Type} (e : α → PyData) (f : β → PyData) (p : α × β) : PyData := .tuple [e p.1, f p.2]
theorem goodI : Good PyData.int 0 := ⟨fun _ => rfl, fun _ => Nat.le_refl _, fun x y => by
  show (x == y) = _
  rw [Bool.eq_iff_iff]
  simp⟩
theorem goodB : Good PyData.bool 0 := ⟨fun _ => rfl, fun _ => Nat.le_refl _, fun x y => by
  show (x == y) = _
  rw [Bool.eq_iff_iff]
  simp⟩
section
variable {α β : Type} [DecidableEq α] [DecidableEq β] {e : α → PyData} {f : β → PyData} {n m : Nat}
theorem Good.layAll (g : Good e n) : ∀ xs : List α, PyData.canLayAll0 (xs.map e) = true
  | [] => rfl
  | x :: xs => by
    show (PyData.canLay0 (e x) && PyData.canLayAll0 (xs.map e)) = true
    rw [g.layAll xs, g.lay x]
    rfl
theorem Good.depAll (g : Good e n) : ∀ xs : List α, PyData.depthAll (xs.map e) ≤ n
  | [] => Nat.zero_le _
  | x :: xs => by
    show max (PyData.depth (e x)) (PyData.depthAll (xs.map e)) ≤ n
    exact Nat.max_le.mpr ⟨g.dep x, g.depAll xs⟩
theorem Good.eqvAll (g : Good e n) : ∀ xs ys : List α, PyData.eqvAll (xs.map e) (ys.map e) = decide (xs = ys)
  | [], [] => rfl
  | [], _ :: _ => rfl
  | _ :: _, [] => rfl
  | x :: xs, y :: ys => by
    show (PyData.eqv (e x) (e y) && PyData.eqvAll (xs.map e) (ys.map e)) = _
    rw [g.eqvAll xs ys, g.eqv, Bool.eq_iff_iff]
    simp
theorem goodL (g : Good e n) : Good (eL e) (n + 1) := ⟨fun xs => g.layAll xs, fun xs => by
  show PyData.depthAll (xs.map e) + 1 ≤ n + 1
  have := g.depAll xs
  omega, fun xs ys => g.eqvAll xs ys⟩
theorem goodT (g : Good e n) : Good (eT e) (n + 1) := ⟨fun xs => g.layAll xs, fun xs => by
  show PyData.depthAll (xs.map e) + 1 ≤ n + 1
  have := g.depAll xs
  omega, fun xs ys => g.eqvAll xs ys⟩
theorem goodP (g : Good e n) (k : Good f n) : Good (eP e f) (n + 1) := ⟨fun p => by
    show (PyData.canLay0 (e p.1) && (PyData.canLay0 (f p.2) && true)) = true
    rw [g.lay, k.lay]
    rfl, fun p => by
    show max (PyData.depth (e p.1)) (max (PyData.depth (f p.2)) 0) + 1 ≤ n + 1
    have h1 := g.dep p.1
    have h2 := k.dep p.2
    have : max (PyData.depth (e p.1)) (max (PyData.depth (f p.2)) 0) ≤ n := Nat.max_le.mpr ⟨h1, Nat.max_le.mpr ⟨h2, Nat.zero_le _⟩⟩
    omega, fun p q => by
    show (PyData.eqv (e p.1) (e q.1) && (PyData.eqv (f p.2) (f q.2) && true)) = _
    rw [g.eqv, k.eqv, Bool.eq_iff_iff]
    obtain ⟨a, b⟩ := p
    obtain ⟨c, d⟩ := q
    simp⟩
theorem Good.shaped (g : Good e n) (h : n ≤ 64) (x : α) : SeqAt.shaped (e x) = true := by
  unfold SeqAt.shaped
  rw [g.lay x, decide_eq_true (Nat.le_trans (g.dep x) h)]
  rfl
/-- two things compared -/
theorem eqE {K : PySem.W.Frag} {H : Hp} {v u : V} {x y : α} {Q : VK} (g : Good e n) (hn : n ≤ 64) (h1 : Dp K H v (e x)) (h2 : Dp K H u (e y)) (q : Q (.bl (decide (x = y))) H) : rEqD K v u H Q :=
  ⟨_, _, h1, h2, g.shaped hn x, g.shaped hn y, by rw [g.eqv]; exact q⟩
theorem neE {K : PySem.W.Frag} {H : Hp} {v u : V} {x y : α} {Q : VK} (g : Good e n) (hn : n ≤ 64) (h1 : Dp K H v (e x)) (h2 : Dp K H u (e y)) (q : Q (.bl (!decide (x = y))) H) : rNeD K v u H Q :=
  ⟨_, _, h1, h2, g.shaped hn x, g.shaped hn y, by rw [g.eqv]; exact q⟩
end
theorem dpI {K : PySem.W.Frag} {H : Hp} : ∀ (ns : List Int), DpAll K H (ns.map V.int) (ns.map PyData.int)
  | [] => .nil
  | n :: ns => .cons (.int n) (dpI ns)
/-- a list of ints -/
theorem dpL {K : PySem.W.Frag} {H : Hp} {a : Addr} {ns : List Int} (h : SqL K H a (ns.map V.int)) : Dp K H (.ref a) (eL PyData.int ns) := .lst h (dpI ns)
theorem dpT {K : PySem.W.Frag} {H : Hp} {a : Addr} {ns : List Int} (h : SqT K H a (ns.map V.int)) : Dp K H (.ref a) (eT PyData.int ns) := .tup h (dpI ns)
/-- lists of ints compared -/
theorem eqI_ {K : PySem.W.Frag} {H : Hp} {a b : Addr} {xs ys : List Int} {Q : VK} (h1 : SqL K H a (xs.map V.int)) (h2 : SqL K H b (ys.map V.int)) (q : Q (.bl (decide (xs = ys))) H) : rEqD K (.ref a) (.ref b) H Q := eqE (goodL goodI) (by decide) (dpL h1) (dpL h2) q
theorem neI_ {K : PySem.W.Frag} {H : Hp} {a b : Addr} {xs ys : List Int} {Q : VK} (h1 : SqL K H a (xs.map V.int)) (h2 : SqL K H b (ys.map V.int)) (q : Q (.bl (!decide (xs = ys))) H) : rNeD K (.ref a) (.ref b) H Q := neE (goodL goodI) (by decide) (dpL h1) (dpL h2) q
/-! ### new objects, the heap behind them by a letter -/
section
variable {X : Cx} {es : List Expr} {t : TA} {pos : Pos}
theorem pe_weak {e : Expr} {t t' : TE} (h : PE X e t) (w : ∀ σ H Q, t' σ H Q → t σ H Q) : PE X e t' := ⟨fun pins s σ H Q I q => h.run pins s σ H Q I (w σ H Q q)⟩
def tCutA (t : TA) : TA := fun σ H Q => ∃ M : List V → Hp → Prop, t σ H M ∧ ∀ vs H', M vs H' → Q vs H'
theorem pa_cut (h : PA X es t) : PA X es (tCutA t) := ⟨fun pos pins s σ H Q I ⟨M, hm, hq⟩ => thn (h.run pos pins s σ H M I hm) fun us s1 ⟨xs, H1, I1, r, q⟩ => ⟨xs, H1, I1, r, hq xs H1 q⟩⟩
/-- a new thing o, at any free place of any heap that keeps H -/
def New (o : HO) (H : Hp) (Q : VK) : Prop := ∀ p H', H p = none → Ex H H' → H' p = some o → Q (.ref p) H'
theorem New.go {o : HO} {H : Hp} {Q : VK} (k : New o H Q) (p : Addr) (hp : H p = none) : Q (.ref p) (upd H p o) := k p _ hp (Evl.Ex.new hp) upd_same
def tLstG (t : TA) : TE := fun σ H Q => t σ H fun xs H1 => xs.length ≤ sizeLine ∧ New (.lst xs) H1 Q
def tTupG (t : TA) : TE := fun σ H Q => t σ H fun xs H1 => xs.length ≤ sizeLine ∧ New (.tup xs) H1 Q
theorem pe_lstG (h : PA X es t) : PE X (.List es pos) (tLstG t) := pe_weak (pe_lst (pa_cut h)) fun σ H Q q => ⟨_, q, fun _ _ z => ⟨z.1, fun p hp => z.2.go p hp⟩⟩
theorem pe_tupG {x1} (h : PA X es t) : PE X (.Tuple es x1 pos) (tTupG t) := pe_weak (pe_tup (pa_cut h)) fun σ H Q q => ⟨_, q, fun _ _ z => ⟨z.1, fun p hp => z.2.go p hp⟩⟩
def rCatG : R2 := fun x y H Q => ∃ l b xs zs, x = .ref l ∧ y = .ref b ∧ H l = some (.lst xs) ∧ H b = some (.lst zs) ∧ xs.length + zs.length ≤ sizeLine ∧ New (.lst (xs ++ zs)) H Q
theorem op_catG : OpR X (binaryOp .Add) rCatG := fun pins s σ H x y v u Q I rx ry ⟨l, b, xs, zs, h1, h2, h3, h4, h5, k⟩ => op_cat pins s σ H x y v u Q I rx ry ⟨l, b, xs, zs, h1, h2, h3, h4, h5, fun p hp => k.go p hp⟩
def rRepG : R2 := fun x y H Q => ∃ l k xs, x = .ref l ∧ y = .int k ∧ H l = some (.lst xs) ∧ -(2 ^ 63) ≤ k ∧ k < 2 ^ 63 ∧ xs.length * k.toNat ≤ sizeLine ∧ New (.lst (List.replicate k.toNat xs).flatten) H Q
theorem op_repG : OpR X (binaryOp .Mult) rRepG := fun pins s σ H x y v u Q I rx ry ⟨l, k, xs, h1, h2, h3, h4, h5, h6, z⟩ => op_rep pins s σ H x y v u Q I rx ry ⟨l, k, xs, h1, h2, h3, h4, h5, h6, fun p hp => z.go p hp⟩
def rSlG (K : PySem.W.Frag) : V → Option Int → Option Int → Hp → VK → Prop := fun x lo hi H Q => ∃ a xs, x = .ref a ∧ SqL K H a xs ∧ New (.lst (cutV xs lo hi)) H Q
theorem sl_listG : SlR X (rSlG X.K) := fun pins s σ H x v vl vu lo hi sl Q I rx hs pl pu ⟨a, xs, h1, h2, k⟩ => sl_list pins s σ H x v vl vu lo hi sl Q I rx hs pl pu ⟨a, xs, h1, h2, fun p hp => k.go p hp⟩
def rListG (K : PySem.W.Frag) : List V → Hp → VK → Prop := fun xs H Q => ∃ p ys, xs = [.ref p] ∧ (SqL K H p ys ∨ SqT K H p ys) ∧ New (.lst ys) H Q
theorem call_listG : CallR X (.type "list") (rListG X.K) := fun pins s σ H xs us Q I r ⟨p, ys, h1, h2, k⟩ => call_list_of pins s σ H xs us Q I r ⟨p, ys, h1, h2, fun p hp => k.go p hp⟩
def rTupleG (K : PySem.W.Frag) : List V → Hp → VK → Prop := fun xs H Q => ∃ p ys, xs = [.ref p] ∧ SqL K H p ys ∧ New (.tup ys) H Q
theorem call_tupleG : CallR X (.type "tuple") (rTupleG X.K) := fun pins s σ H xs us Q I r ⟨p, ys, h1, h2, k⟩ => call_tuple_of pins s σ H xs us Q I r ⟨p, ys, h1, .inl ⟨h2, fun p hp => k.go p hp⟩⟩
def rSortedG (K : PySem.W.Frag) : List V → Hp → VK → Prop := fun vs H Q => ∃ (a : Addr) (ns : List Int), vs = [V.ref a] ∧ SqL K H a (ns.map V.int) ∧ ∀ ns' : List Int, ns'.Perm ns → ns'.Pairwise (· ≤ ·) → New (.lst (ns'.map V.int)) H Q
theorem cr_sortedG : CallR X (.builtin "sorted") (rSortedG X.K) := fun pins s σ H xs us Q I r ⟨a, ns, h1, h2, k⟩ => cr_sortedI pins s σ H xs us Q I r ⟨a, ns, h1, h2, fun ns' p h3 h4 hp => (k ns' h3 h4).go p hp⟩
end
/-! ### slices -/
theorem cut_to (xs : List V) (n : Nat) : cutV xs none (some (n : Int)) = xs.take n := by
  unfold cutV
  rw [HT.sIx_none, HT.sIx_nat, List.drop_zero, Nat.sub_zero]
  by_cases h : n ≤ xs.length
  · rw [Nat.min_eq_left h]
  · rw [Nat.min_eq_right (by omega), List.take_of_length_le (Nat.le_refl _), List.take_of_length_le (by omega)]
theorem cut_from (xs : List V) (n : Nat) : cutV xs (some (n : Int)) none = xs.drop n := by
  unfold cutV
  rw [HT.sIx_none, HT.sIx_nat]
  by_cases h : n ≤ xs.length
  · rw [Nat.min_eq_left h, List.take_of_length_le (by rw [List.length_drop]; exact Nat.le_refl _)]
  · rw [Nat.min_eq_right (by omega), List.drop_eq_nil_of_le (Nat.le_refl _), List.drop_eq_nil_of_le (by omega)]
    exact List.take_nil
/-! ### ways that come together -/
section
variable {X : Cx}
def tCutE (te : TE) : TE := fun σ H Q => ∃ M : V → Hp → Prop, te σ H M ∧ ∀ v H', M v H' → Q v H'
def tCutT (tt : TT) : TT := fun σ H Q => ∃ M : Bool → Hp → Prop, tt σ H M ∧ ∀ b H', M b H' → Q b H'
def tCutS (t : TS) : TS := fun D σ H => ∃ M : L2.St → Hp → Prop, t { D with nx := M } σ H ∧ ∀ σ' H', M σ' H' → D.nx σ' H'
theorem pe_cut {e : Expr} {te : TE} (h : PE X e te) : PE X e (tCutE te) := ⟨fun pins s σ H Q I ⟨M, hm, hq⟩ => thn (h.run pins s σ H M I hm) fun v s1 ⟨x, H1, I1, r, q⟩ => ⟨x, H1, I1, r, hq x H1 q⟩⟩
theorem pt_cut {e : Expr} {tt : TT} (h : PT X e tt) : PT X e (tCutT tt) := ⟨fun pins s σ H Q I ⟨M, hm, hq⟩ => thn (h.run pins s σ H M I hm) fun b s1 ⟨H1, I1, q⟩ => ⟨H1, I1, hq b H1 q⟩⟩
theorem ps_cut {st : Stmt} {t : TS} (h : PS X st t) : PS X st (tCutS t) := by
  refine ⟨fun pins s σ H D I ⟨M, hm, hq⟩ => thn (h.run pins s σ H { D with nx := M } I hm) fun f s1 q => ?_⟩
  cases f with
  | next =>
    obtain ⟨σ', H', I', q⟩ := q
    exact ⟨σ', H', I', hq σ' H' q⟩
  | ret v => exact q
  | brk => exact q
  | cont => exact q
end
theorem ifF {c : Bool} {A B : Prop} (h : c = false) (k : B) : if c = true then A else B := by
  rw [h]
  exact iteF k
theorem ifT {c : Bool} {A B : Prop} (h : c = true) (k : A) : if c = true then A else B := by
  rw [h]
  exact iteT k
theorem ifB {c : Bool} {A B : Prop} (h1 : c = true → A) (h2 : c = false → B) : if c = true then A else B := by
  cases c with
  | true => exact iteT (h1 rfl)
  | false => exact iteF (h2 rfl)
/-! ### comprehensions without tests, the element without a trace -/
theorem lc_mapL {K : PySem.W.Frag} {a : Addr} {xs ys : List V} {j : Nat} {te : TE} {vs : List Nat} {σ : L2.St} {H1 : Hp} {D : Addr} {Qd : Hp → Prop} (hx : SqL K H1 a xs) (hD : H1 D = none) (hl : ys.length = xs.length) (hz : xs.length ≤ sizeLine)
    (hw : ∀ x, wipe ((wipe σ vs).set j (some x)) vs = wipe σ vs)
    (he : ∀ (i : Nat) x y H', Ex H1 H' → xs[i]? = some x → ys[i]? = some y → ∀ R : VK, (∀ H2, Ex H' H2 → R y H2) → te ((wipe σ vs).set j (some x)) H' R)
    (k : ∀ H', Ex H1 H' → H' D = some (.lst ys) → Qd H') :
    ∃ W : Nat → Nat → Hp → Prop, (∃ m, W 0 m (upd H1 D (.lst []))) ∧ ∀ i m H, W i m H →
      ((Itl K a).stop i H ∧ Qd H) ∨ ((Itl K a).go i H ∧ ∃ Nx : Hp → Prop, (∀ H', Nx H' → ∃ m', m' < m ∧ W (i + 1) m' H') ∧ ∀ x H', (Itl K a).yld i H x H' → gName j x (wipe σ vs) H' fun σ2 H2 => wipe σ2 vs = wipe σ vs ∧ tYes σ2 H2 fun b H3 =>
        if b = true then te σ2 H3 fun y H4 => ∃ acc, H4 D = some (.lst acc) ∧ acc.length < sizeLine ∧ Nx (upd H4 D (.lst (acc ++ [y]))) else Nx H3) := by
  refine lc_list (xs := xs) (fun i H' => Ex H1 H' ∧ H' D = some (.lst (ys.take i))) ⟨Evl.Ex.new hD, upd_same⟩ (fun i H' _ p => Evl.ex_l p.1 hx) (fun i x H' hi p => ?_) (fun H' p => k H' p.1 ?_)
  · have hi' : i < xs.length := (List.getElem?_eq_some_iff.mp hi).1
    have hy : ys[i]? = some (ys[i]'(by omega)) := List.getElem?_eq_getElem (by omega)
    refine ⟨hw x, ?_⟩
    show te ((wipe σ vs).set j (some x)) H' _
    refine he i x _ H' p.1 hi hy _ fun H2 e2 => ⟨ys.take i, e2 _ _ p.2, ?_, ?_⟩
    · rw [List.length_take]
      omega
    · refine ⟨Evl.Ex.mut (p.1.trans e2) hD, ?_⟩
      rw [upd_same, List.take_add_one, hy]
      rfl
  · have := p.2
    rw [List.take_of_length_le (by omega)] at this
    exact this
end My
set_option Elab.async false
set_option maxRecDepth 100000
set_option maxHeartbeats 4000000
/-! K37: the mathematics of short forms, in plain Lean. -/
namespace K37
def ab (n : Int) : Int := if n < 0 then -n else n
def cl (S x : Int) : Int := if (if x < S then x else S) > 0 then (if x < S then x else S) else 0
theorem cl_eq (S x : Int) : cl S x = if x < S then (if x > 0 then x else 0) else (if S > 0 then S else 0) := by
  unfold cl
  split <;> rfl
theorem cl_in {S x : Int} (h0 : 0 ≤ x) (h1 : x ≤ S) : cl S x = x := by
  rw [cl_eq]
  split <;> split <;> omega
theorem cl_lo {S x : Int} (h : 0 ≤ S) (h0 : x ≤ 0) : cl S x = 0 := by
  rw [cl_eq]
  split <;> split <;> omega
theorem cl_hi {S x : Int} (h : 0 ≤ S) (h0 : S ≤ x) : cl S x = S := by
  rw [cl_eq]
  split <;> split <;> omega
theorem cl_rng {S x : Int} (h : 0 ≤ S) : 0 ≤ cl S x ∧ cl S x ≤ S := by
  rw [cl_eq]
  split <;> split <;> omega
def opp (a b : Int) : Prop := (0 < a ∧ b < 0) ∨ (a < 0 ∧ 0 < b)
theorem ab_cases (n : Int) : (n < 0 ∧ ab n = -n) ∨ (0 ≤ n ∧ ab n = n) := by
  unfold ab
  split
  · exact .inl ⟨by assumption, rfl⟩
  · exact .inr ⟨by omega, rfl⟩
/-- where turns lead a scroll in a room -/
def led (S : Int) : List Int → Int → Int
  | [], x => x
  | t :: ts, x => led S ts (cl S (x + t))
theorem led_app {S : Int} : ∀ (xs ys : List Int) (x : Int), led S (xs ++ ys) x = led S ys (led S xs x)
  | [], _, _ => rfl
  | t :: ts, ys, x => led_app ts ys (cl S (x + t))
theorem led_rng {S : Int} (h : 0 ≤ S) : ∀ (ts : List Int) {x : Int}, 0 ≤ x → x ≤ S → 0 ≤ led S ts x ∧ led S ts x ≤ S
  | [], _, h0, h1 => ⟨h0, h1⟩
  | t :: ts, x, _, _ => led_rng h ts (cl_rng (S := S) (x := x + t) h).1 (cl_rng (S := S) (x := x + t) h).2
theorem e1 {S x a w : Int} (hS : 0 ≤ S) (h0 : 0 ≤ x) (h1 : x ≤ S) (h : (0 < a ∧ 0 < w) ∨ (a ≤ 0 ∧ w ≤ 0)) : cl S (cl S (x + a) + w) = cl S (x + (w + a)) := by
  simp only [cl_eq]
  split <;> split <;> split <;> split <;> (try split) <;> (try split) <;> omega
theorem e2 {S x p a w : Int} (hS : 0 ≤ S) (h0 : 0 ≤ x) (h1 : x ≤ S) (h : opp p a) (h' : opp a w) (l1 : ab a ≤ ab p) (l2 : ab a ≤ ab w) : cl S (cl S (cl S (x + p) + a) + w) = cl S (x + (w + a + p)) := by
  have c1 := ab_cases a
  have c2 := ab_cases p
  have c3 := ab_cases w
  have r1 := cl_rng (S := S) (x := x + p) hS
  have r2 := cl_rng (S := S) (x := cl S (x + p) + a) hS
  rcases h with ⟨hp, ha⟩ | ⟨hp, ha⟩
  · rcases h' with ⟨q, _⟩ | ⟨_, hw⟩
    · omega
    · by_cases z : x + p ≤ S
      · rw [cl_in (S := S) (x := x + p) (by omega) z, cl_in (S := S) (x := x + p + a) (by omega) (by omega)]
        congr 1
        omega
      · rw [cl_hi (S := S) (x := x + p) hS (by omega)]
        have r3 := cl_rng (S := S) (x := S + a) hS
        by_cases y : 0 ≤ S + a
        · rw [cl_in (S := S) (x := S + a) y (by omega), cl_hi hS (by omega), cl_hi hS (by omega)]
        · rw [cl_lo (S := S) (x := S + a) hS (by omega), cl_hi hS (by omega), cl_hi hS (by omega)]
  · rcases h' with ⟨_, hw⟩ | ⟨q, _⟩
    · by_cases z : 0 ≤ x + p
      · rw [cl_in (S := S) (x := x + p) z (by omega), cl_in (S := S) (x := x + p + a) (by omega) (by omega)]
        congr 1
        omega
      · rw [cl_lo (S := S) (x := x + p) hS (by omega)]
        by_cases y : 0 + a ≤ S
        · rw [cl_in (S := S) (x := 0 + a) (by omega) y, cl_lo hS (by omega), cl_lo hS (by omega)]
        · rw [cl_hi (S := S) (x := 0 + a) hS (by omega), cl_lo hS (by omega), cl_lo hS (by omega)]
    · omega
theorem e3 {S x p a w : Int} (hS : 0 ≤ S) (h0 : 0 ≤ x) (h1 : x ≤ S) (h : opp p a) (h' : opp a w) (l1 : ab p < ab a) (l2 : ab a ≤ ab w) : cl S (cl S (cl S (x + p) + a) + w) = cl S (cl S (x + (p + a)) + w) := by
  have c1 := ab_cases a
  have c2 := ab_cases p
  have c3 := ab_cases w
  have r1 := cl_rng (S := S) (x := x + (p + a)) hS
  rcases h with ⟨hp, ha⟩ | ⟨hp, ha⟩
  · rcases h' with ⟨q, _⟩ | ⟨_, hw⟩
    · omega
    · by_cases z : x + p ≤ S
      · rw [cl_in (S := S) (x := x + p) (by omega) z]
        congr 2
        congr 1
        omega
      · rw [cl_hi (S := S) (x := x + p) hS (by omega)]
        rw [cl_hi (S := S) (x := cl S (x + (p + a)) + w) hS ?_]
        · by_cases y : 0 ≤ S + a
          · rw [cl_in (S := S) (x := S + a) y (by omega), cl_hi hS (by omega)]
          · rw [cl_lo (S := S) (x := S + a) hS (by omega), cl_hi hS (by omega)]
        · by_cases y : 0 ≤ x + (p + a)
          · rw [cl_in y (by omega)]
            omega
          · rw [cl_lo hS (by omega)]
            omega
  · rcases h' with ⟨_, hw⟩ | ⟨q, _⟩
    · by_cases z : 0 ≤ x + p
      · rw [cl_in (S := S) (x := x + p) z (by omega)]
        congr 2
        congr 1
        omega
      · rw [cl_lo (S := S) (x := x + p) hS (by omega)]
        rw [cl_lo (S := S) (x := cl S (x + (p + a)) + w) hS ?_]
        · by_cases y : 0 + a ≤ S
          · rw [cl_in (S := S) (x := 0 + a) (by omega) y, cl_lo hS (by omega)]
          · rw [cl_hi (S := S) (x := 0 + a) hS (by omega), cl_lo hS (by omega)]
        · by_cases y : x + (p + a) ≤ S
          · rw [cl_in (by omega) y]
            omega
          · rw [cl_hi hS (by omega)]
            omega
    · omega
/-! ### the stack: the form, its last turn first -/
def add : List Int → Int → List Int
  | [], w => if w = 0 then [] else [w]
  | a :: r, w =>
    if w = 0 then a :: r
    else if (decide (a > 0)) = (decide (w > 0)) then add r (w + a)
    else match r with
      | [] => w :: a :: []
      | p :: r' =>
        if ab a ≤ ab w then
          (if ab a ≤ ab p then add r' (w + a + p) else add ((p + a) :: r') w)
        else w :: a :: p :: r'
termination_by r => r.length
/-- a valid form, its last turn first -/
def Val : List Int → Prop
  | [] => True
  | [a] => a ≠ 0
  | a :: p :: r => opp p a ∧ (r ≠ [] → ab a < ab p) ∧ Val (p :: r)
theorem Val.ne {a : Int} {r : List Int} (h : Val (a :: r)) : a ≠ 0 := by
  cases r with
  | nil => exact h
  | cons p r =>
    obtain ⟨h, _⟩ := h
    rcases h with h | h <;> omega
theorem Val.tail {a : Int} {r : List Int} (h : Val (a :: r)) : Val r := by
  cases r with
  | nil => trivial
  | cons p r => exact h.2.2
theorem opp_of {a w : Int} (ha : a ≠ 0) (hw : w ≠ 0) (h : ¬ decide (a > 0) = decide (w > 0)) : opp a w := by
  unfold opp
  by_cases h1 : a > 0 <;> by_cases h2 : w > 0
  · simp [h1, h2] at h
  · left; omega
  · right; omega
  · simp [h1, h2] at h
theorem same_of {a w : Int} (ha : a ≠ 0) (hw : w ≠ 0) (h : decide (a > 0) = decide (w > 0)) : (0 < a ∧ 0 < w) ∨ (a < 0 ∧ w < 0) := by
  by_cases h1 : a > 0 <;> by_cases h2 : w > 0
  · left; omega
  · simp [h1, h2] at h
  · simp [h1, h2] at h
  · right; omega
theorem add_val (n : Nat) : ∀ (r : List Int) (w : Int), r.length ≤ n → Val r → Val (add r w) := by
  induction n with
  | zero =>
    intro r w hl h
    cases r with
    | nil =>
      unfold add
      split
      · trivial
      · assumption
    | cons a r => simp at hl
  | succ n ih =>
    intro r w hl h
    cases r with
    | nil =>
      unfold add
      split
      · trivial
      · assumption
    | cons a r =>
      have hl' : r.length ≤ n := by simpa using hl
      unfold add
      split
      · exact h
      · rename_i hw
        split
        · exact ih r _ hl' h.tail
        · rename_i ho
          have ho' := opp_of h.ne hw ho
          cases r with
          | nil => exact ⟨ho', fun q => absurd rfl q, h⟩
          | cons p r' =>
            dsimp only
            split
            · split
              · exact ih r' _ (by simp at hl'; omega) h.tail.tail
              · rename_i hp
                -- only where there is nothing ahead
                have hr : r' = [] := by
                  cases r' with
                  | nil => rfl
                  | cons b r'' =>
                    have := h.2.1 (by simp)
                    omega
                subst hr
                refine ih [p + a] w (by simpa using hl') ?_
                show p + a ≠ 0
                have c1 := ab_cases a
                have c2 := ab_cases p
                omega
            · rename_i hlt
              exact ⟨ho', fun _ => by omega, h⟩
theorem add_led (n : Nat) : ∀ (r : List Int) (w : Int) {S x : Int}, r.length ≤ n → Val r → 0 ≤ S → 0 ≤ x → x ≤ S → led S (add r w).reverse x = cl S (led S r.reverse x + w) := by
  have nil : ∀ (w : Int) {S x : Int}, 0 ≤ S → 0 ≤ x → x ≤ S → led S (add [] w).reverse x = cl S (led S ([] : List Int).reverse x + w) := fun w S x hS h0 h1 => by
    unfold add
    split
    · rename_i hw
      subst hw
      show x = cl S (x + 0)
      rw [Int.add_zero, cl_in h0 h1]
    · rfl
  induction n with
  | zero =>
    intro r w S x hl h hS h0 h1
    cases r with
    | nil => exact nil w hS h0 h1
    | cons a r => simp at hl
  | succ n ih =>
    intro r w S x hl h hS h0 h1
    cases r with
    | nil => exact nil w hS h0 h1
    | cons a r =>
      have hl' : r.length ≤ n := by simpa using hl
      unfold add
      have rg := led_rng hS (a :: r).reverse h0 h1
      have rg1 := led_rng hS r.reverse h0 h1
      split
      · rename_i hw
        subst hw
        rw [Int.add_zero, cl_in rg.1 rg.2]
      · rename_i hw
        have ea : led S (a :: r).reverse x = cl S (led S r.reverse x + a) := by
          rw [List.reverse_cons, led_app]
          rfl
        split
        · rename_i hs
          rw [ih r _ hl' h.tail hS h0 h1, ea, e1 hS rg1.1 rg1.2]
          rcases same_of h.ne hw hs with q | q <;> omega
        · rename_i ho
          have ho' := opp_of h.ne hw ho
          cases r with
          | nil =>
            show led S [a, w] x = _
            rfl
          | cons p r' =>
            have rg2 := led_rng hS r'.reverse h0 h1
            have ep : led S (p :: r').reverse x = cl S (led S r'.reverse x + p) := by
              rw [List.reverse_cons, led_app]
              rfl
            dsimp only
            split
            · rename_i haw
              split
              · rename_i hap
                rw [ih r' _ (by simp at hl'; omega) h.tail.tail hS h0 h1, ea, ep, e2 hS rg2.1 rg2.2 h.1 ho' hap haw]
              · rename_i hp
                have hr : r' = [] := by
                  cases r' with
                  | nil => rfl
                  | cons b r'' =>
                    have := h.2.1 (by simp)
                    omega
                subst hr
                have hne : p + a ≠ 0 := by
                  have c1 := ab_cases a
                  have c2 := ab_cases p
                  omega
                rw [ih [p + a] w (by simpa using hl') hne hS h0 h1, ea, ep]
                show cl S (cl S (x + (p + a)) + w) = cl S (cl S (cl S (x + p) + a) + w)
                rw [e3 hS h0 h1 h.1 ho' (by omega) haw]
            · rw [List.reverse_cons, led_app]
              rfl
theorem add_len (n : Nat) : ∀ (r : List Int) (w : Int), r.length ≤ n → (add r w).length ≤ r.length + 1 := by
  induction n with
  | zero =>
    intro r w hl
    cases r with
    | nil => unfold add; split <;> simp
    | cons a r => simp at hl
  | succ n ih =>
    intro r w hl
    cases r with
    | nil => unfold add; split <;> simp
    | cons a r =>
      have hl' : r.length ≤ n := by simpa using hl
      unfold add
      split
      · simp
      · split
        · have := ih r (w + a) hl'
          simp
          omega
        · cases r with
          | nil => simp
          | cons p r' =>
            dsimp only
            split
            · split
              · have := ih r' (w + a + p) (by simp at hl'; omega)
                simp
                omega
              · have := ih ((p + a) :: r') w (by simpa using hl')
                simp at this ⊢
                omega
            · simp
theorem ab_mul {k a : Int} (hk : 0 < k) : ab (k * a) = k * ab a := by
  unfold ab
  by_cases h : a < 0
  · rw [if_pos h, if_pos (Int.mul_neg_of_pos_of_neg hk h), Int.mul_neg]
  · have : 0 ≤ k * a := Int.mul_nonneg (by omega) (by omega)
    rw [if_neg h, if_neg (by omega)]
theorem mul_le_iff {k a b : Int} (hk : 0 < k) : (k * a ≤ k * b) ↔ a ≤ b := ⟨fun h => Int.le_of_mul_le_mul_left h hk, fun h => Int.mul_le_mul_of_nonneg_left h (by omega)⟩
theorem mul_pos_iff {k a : Int} (hk : 0 < k) : (k * a > 0) ↔ a > 0 := by
  constructor
  · intro h
    by_cases z : a > 0
    · exact z
    · have : k * a ≤ 0 := by
        have := (mul_le_iff (k := k) (a := a) (b := 0) hk).mpr (by omega)
        omega
      omega
  · exact fun h => Int.mul_pos hk h
theorem mul_zero_iff {k a : Int} (hk : 0 < k) : (k * a = 0) ↔ a = 0 := by
  constructor
  · intro h
    rcases Int.mul_eq_zero.mp h with z | z <;> omega
  · intro h
    rw [h, Int.mul_zero]
theorem add_scale {k : Int} (hk : 0 < k) (n : Nat) : ∀ (r : List Int) (w : Int), r.length ≤ n → add (r.map (k * ·)) (k * w) = (add r w).map (k * ·) := by
  have nil : ∀ w, add (([] : List Int).map (k * ·)) (k * w) = (add [] w).map (k * ·) := fun w => by
    show add [] (k * w) = _
    unfold add
    by_cases h : w = 0
    · rw [if_pos h, if_pos ((mul_zero_iff hk).mpr h)]
      rfl
    · rw [if_neg h, if_neg (fun q => h ((mul_zero_iff hk).mp q))]
      rfl
  induction n with
  | zero =>
    intro r w hl
    cases r with
    | nil => exact nil w
    | cons a r => simp at hl
  | succ n ih =>
    intro r w hl
    cases r with
    | nil => exact nil w
    | cons a r =>
      have hl' : r.length ≤ n := by simpa using hl
      have ed : ∀ z : Int, decide (k * z > 0) = decide (z > 0) := fun z => by
        rw [decide_eq_decide]
        exact mul_pos_iff hk
      show add ((k * a) :: r.map (k * ·)) (k * w) = _
      unfold add
      by_cases h : w = 0
      · rw [if_pos h, if_pos ((mul_zero_iff hk).mpr h)]
        rfl
      · rw [if_neg h, if_neg (fun q => h ((mul_zero_iff hk).mp q)), ed, ed]
        by_cases h2 : decide (a > 0) = decide (w > 0)
        · rw [if_pos h2, if_pos h2, ← ih r (w + a) hl', Int.mul_add]
        · rw [if_neg h2, if_neg h2]
          cases r with
          | nil => rfl
          | cons p r' =>
            show (if ab (k * a) ≤ ab (k * w) then if ab (k * a) ≤ ab (k * p) then add (r'.map (k * ·)) (k * w + k * a + k * p) else add ((k * p + k * a) :: r'.map (k * ·)) (k * w) else k * w :: k * a :: k * p :: r'.map (k * ·)) = List.map (k * ·) (if ab a ≤ ab w then if ab a ≤ ab p then add r' (w + a + p) else add ((p + a) :: r') w else w :: a :: p :: r')
            rw [ab_mul hk, ab_mul hk, ab_mul hk]
            by_cases h3 : ab a ≤ ab w
            · rw [if_pos h3, if_pos ((mul_le_iff hk).mpr h3)]
              by_cases h4 : ab a ≤ ab p
              · rw [if_pos h4, if_pos ((mul_le_iff hk).mpr h4), ← ih r' _ (by simp at hl'; omega), Int.mul_add, Int.mul_add]
              · rw [if_neg h4, if_neg (fun q => h4 ((mul_le_iff hk).mp q)), ← ih ((p + a) :: r') w (by simpa using hl')]
                show _ = add (k * (p + a) :: r'.map (k * ·)) (k * w)
                rw [Int.mul_add]
            · rw [if_neg h3, if_neg (fun q => h3 ((mul_le_iff hk).mp q))]
              rfl
/-- a turn that fits is laid on -/
theorem add_fix {a : Int} {r : List Int} (h : Val (a :: r)) : add r a = a :: r := by
  cases r with
  | nil =>
    unfold add
    rw [if_neg h]
  | cons p r =>
    unfold add
    rw [if_neg h.ne, if_neg ?_]
    · cases r with
      | nil => rfl
      | cons b r' =>
        dsimp only
        have := h.2.1 (by simp)
        rw [if_neg (by omega)]
    · intro q
      have ho := h.1
      rcases same_of h.tail.ne h.ne q with z | z <;> rcases ho with y | y <;> omega
/-! ### the form of a list of turns -/
def stk (ts : List Int) : List Int := ts.foldl add []
def form (ts : List Int) : List Int := (stk ts).reverse
theorem stk_app (ts : List Int) (t : Int) : stk (ts ++ [t]) = add (stk ts) t := by
  unfold stk
  rw [List.foldl_append]
  rfl
theorem fold_val : ∀ (ts : List Int) (r : List Int), Val r → Val (ts.foldl add r)
  | [], _, h => h
  | t :: ts, r, h => fold_val ts (add r t) (add_val r.length r t (Nat.le_refl _) h)
theorem stk_val (ts : List Int) : Val (stk ts) := fold_val ts [] trivial
theorem fold_led {S x : Int} (hS : 0 ≤ S) (h0 : 0 ≤ x) (h1 : x ≤ S) : ∀ (ts : List Int) (r : List Int), Val r → led S (ts.foldl add r).reverse x = led S ts (led S r.reverse x)
  | [], _, _ => rfl
  | t :: ts, r, h => by
    show led S (ts.foldl add (add r t)).reverse x = led S ts (cl S (led S r.reverse x + t))
    rw [fold_led hS h0 h1 ts (add r t) (add_val r.length r t (Nat.le_refl _) h), add_led r.length r t (Nat.le_refl _) h hS h0 h1]
theorem form_led {S x : Int} (hS : 0 ≤ S) (h0 : 0 ≤ x) (h1 : x ≤ S) (ts : List Int) : led S (form ts) x = led S ts x := fold_led hS h0 h1 ts [] trivial
theorem fold_len : ∀ (ts : List Int) (r : List Int), (ts.foldl add r).length ≤ r.length + ts.length
  | [], _ => Nat.le_refl _
  | t :: ts, r => by
    have h1 := fold_len ts (add r t)
    have h2 := add_len r.length r t (Nat.le_refl _)
    simp only [List.foldl_cons, List.length_cons]
    omega
theorem form_len (ts : List Int) : (form ts).length ≤ ts.length := by
  unfold form stk
  have := fold_len ts []
  simp at this ⊢
  exact this
theorem fold_scale {k : Int} (hk : 0 < k) : ∀ (ts : List Int) (r : List Int), (ts.map (k * ·)).foldl add (r.map (k * ·)) = (ts.foldl add r).map (k * ·)
  | [], _ => rfl
  | t :: ts, r => by
    show (ts.map (k * ·)).foldl add (add (r.map (k * ·)) (k * t)) = _
    rw [add_scale hk r.length r t (Nat.le_refl _), fold_scale hk ts]
    rfl
theorem form_scale {k : Int} (hk : 0 < k) (ts : List Int) : form (ts.map (k * ·)) = (form ts).map (k * ·) := by
  unfold form stk
  have := fold_scale hk ts []
  rw [show ([] : List Int).map (k * ·) = [] from rfl] at this
  rw [this, List.map_reverse]
theorem stk_fix : ∀ (r : List Int), Val r → stk r.reverse = r
  | [], _ => rfl
  | a :: r, h => by
    rw [List.reverse_cons, stk_app, stk_fix r h.tail, add_fix h]
theorem form_form (ts : List Int) : form (form ts) = form ts := by
  unfold form
  rw [stk_fix _ (stk_val ts)]
/-! ### what a form looks like from ahead -/
def Dn : Int → List Int → Prop
  | _, [] => True
  | a, b :: r => opp a b ∧ ab b < ab a ∧ Dn b r
def Form : List Int → Prop
  | [] => True
  | [a] => a ≠ 0
  | a :: b :: r => opp a b ∧ Dn b r
theorem dn_app : ∀ (xs : List Int) (a b c : Int), Dn a (xs ++ [b]) → opp b c → ab c < ab b → Dn a (xs ++ [b, c])
  | [], a, b, c, h, h1, h2 => ⟨h.1, h.2.1, h1, h2, trivial⟩
  | x :: xs, a, b, c, h, h1, h2 => ⟨h.1, h.2.1, dn_app xs x b c h.2.2 h1 h2⟩
theorem form_of : ∀ (r : List Int), Val r → Form r.reverse
  | [], _ => trivial
  | [a], h => h
  | a :: p :: r, h => by
    have ih := form_of (p :: r) h.2.2
    rw [List.reverse_cons]
    rw [List.reverse_cons] at ih ⊢
    cases e : r.reverse with
    | nil =>
      show Form [p, a]
      exact ⟨h.1, trivial⟩
    | cons x xs =>
      have hr : r ≠ [] := by
        intro z
        rw [z] at e
        cases e
      rw [e] at ih
      have hlt := h.2.1 hr
      cases xs with
      | nil =>
        have ih' : Form [x, p] := ih
        exact ⟨ih'.1, h.1, hlt, trivial⟩
      | cons y ys =>
        have ih' : Form (x :: y :: (ys ++ [p])) := ih
        show Form (x :: y :: ((ys ++ [p]) ++ [a]))
        rw [List.append_assoc]
        exact ⟨ih'.1, dn_app ys y p a ih'.2 h.1 hlt⟩
theorem form_form' (ts : List Int) : Form (form ts) := form_of _ (stk_val ts)
end K37
set_option Elab.async false
set_option maxRecDepth 100000
set_option maxHeartbeats 4000000
set_option linter.unusedVariables false
/-! K37: unlike forms are told apart by a small room. -/
namespace K37
/-- nothing is clipped behind a turn that is greater than what follows -/
theorem nc {S : Int} : ∀ (ts : List Int) (b z : Int), Dn b ts → 0 ≤ z → z ≤ S → (b < 0 → z + (-b) - 1 ≤ S) → (0 < b → 0 ≤ z - b + 1) → led S ts z = z + ts.sum
  | [], b, z, _, _, _, _, _ => by
    show z = z + 0
    omega
  | r :: rest, b, z, h, h0, h1, h2, h3 => by
    obtain ⟨ho, hl, hr⟩ := h
    have c1 := ab_cases b
    have c2 := ab_cases r
    have e : cl S (z + r) = z + r := by
      rcases ho with ⟨p, q⟩ | ⟨p, q⟩
      · have := h3 p
        exact cl_in (by omega) (by omega)
      · have := h2 p
        exact cl_in (by omega) (by omega)
    show led S rest (cl S (z + r)) = _
    rw [e, List.sum_cons]
    have w : 0 ≤ z + r ∧ z + r ≤ S := by
      rcases ho with ⟨p, q⟩ | ⟨p, q⟩
      · have := h3 p
        omega
      · have := h2 p
        omega
    rw [nc rest r (z + r) hr w.1 w.2 (fun _ => by omega) (fun _ => by omega)]
    omega
/-- the greatest turn -/
def gr : List Int → Int
  | [] => 0
  | [a] => ab a
  | a :: b :: _ => if ab a < ab b then ab b else ab a
theorem gr_nn : ∀ (f : List Int), 0 ≤ gr f
  | [] => Int.le_refl _
  | [a] => by
    have := ab_cases a
    show 0 ≤ ab a
    omega
  | a :: b :: _ => by
    have := ab_cases a
    have := ab_cases b
    show 0 ≤ if ab a < ab b then ab b else ab a
    split <;> omega
theorem const {S : Int} {g : List Int} (h1 : 1 ≤ S) (h2 : S ≤ gr g) {x : Int} (x0 : 0 ≤ x) (x1 : x ≤ S) : led S g x = led S g 0 := by
  have wall : ∀ (a y z : Int), S ≤ ab a → 0 ≤ y → y ≤ S → 0 ≤ z → z ≤ S → cl S (y + a) = cl S (z + a) := fun a y z ha _ _ _ _ => by
    rcases ab_cases a with ⟨q, e⟩ | ⟨q, e⟩
    · rw [cl_lo (by omega) (by omega), cl_lo (by omega) (by omega)]
    · rw [cl_hi (by omega) (by omega), cl_hi (by omega) (by omega)]
  match g, h2 with
  | [], h2 =>
    have : S ≤ 0 := h2
    omega
  | [a], h2 =>
    have h2' : S ≤ ab a := h2
    show cl S (x + a) = cl S (0 + a)
    exact wall a x 0 h2' x0 x1 (by omega) (by omega)
  | a :: b :: r, h2 =>
    have h2' : S ≤ if ab a < ab b then ab b else ab a := h2
    by_cases ha : S ≤ ab a
    · show led S (b :: r) (cl S (x + a)) = led S (b :: r) (cl S (0 + a))
      rw [wall a x 0 ha x0 x1 (by omega) (by omega)]
    · have hb : S ≤ ab b := by
        split at h2' <;> omega
      show led S r (cl S (cl S (x + a) + b)) = led S r (cl S (cl S (0 + a) + b))
      have r1 := cl_rng (S := S) (x := x + a) (by omega)
      have r2 := cl_rng (S := S) (x := 0 + a) (by omega)
      rw [wall b _ _ hb r1.1 r1.2 r2.1 r2.2]
theorem vary {f : List Int} (hf : Form f) : led (gr f + 1) f 0 ≠ led (gr f + 1) f (gr f + 1) := by
  match f, hf with
  | [], _ =>
    show (0 : Int) ≠ 0 + 1
    omega
  | [a], ha =>
    have ha' : a ≠ 0 := ha
    show cl (ab a + 1) (0 + a) ≠ cl (ab a + 1) (ab a + 1 + a)
    rcases ab_cases a with ⟨q, e⟩ | ⟨q, e⟩
    · rw [cl_lo (by omega) (by omega), cl_in (by omega) (by omega)]
      omega
    · rw [cl_in (by omega) (by omega), cl_hi (by omega) (by omega)]
      omega
  | a :: b :: r, ⟨ho, hd⟩ =>
    have ca := ab_cases a
    have cb := ab_cases b
    by_cases hab : ab a < ab b
    · have eg : gr (a :: b :: r) = ab b := if_pos hab
      rw [eg]
      show led (ab b + 1) r (cl (ab b + 1) (cl (ab b + 1) (0 + a) + b)) ≠ led (ab b + 1) r (cl (ab b + 1) (cl (ab b + 1) (ab b + 1 + a) + b))
      rcases ho with ⟨p, q⟩ | ⟨p, q⟩
      · rw [cl_in (S := ab b + 1) (x := 0 + a) (by omega) (by omega), cl_lo (S := ab b + 1) (x := 0 + a + b) (by omega) (by omega), cl_hi (S := ab b + 1) (x := ab b + 1 + a) (by omega) (by omega), cl_in (S := ab b + 1) (x := ab b + 1 + b) (by omega) (by omega)]
        rw [nc r b 0 hd (by omega) (by omega) (fun _ => by omega) (fun _ => by omega), nc r b (ab b + 1 + b) hd (by omega) (by omega) (fun _ => by omega) (fun _ => by omega)]
        omega
      · rw [cl_lo (S := ab b + 1) (x := 0 + a) (by omega) (by omega), cl_in (S := ab b + 1) (x := 0 + b) (by omega) (by omega), cl_in (S := ab b + 1) (x := ab b + 1 + a) (by omega) (by omega), cl_hi (S := ab b + 1) (x := ab b + 1 + a + b) (by omega) (by omega)]
        rw [nc r b (0 + b) hd (by omega) (by omega) (fun _ => by omega) (fun _ => by omega), nc r b (ab b + 1) hd (by omega) (by omega) (fun _ => by omega) (fun _ => by omega)]
        omega
    · have eg : gr (a :: b :: r) = ab a := if_neg hab
      rw [eg]
      show led (ab a + 1) r (cl (ab a + 1) (cl (ab a + 1) (0 + a) + b)) ≠ led (ab a + 1) r (cl (ab a + 1) (cl (ab a + 1) (ab a + 1 + a) + b))
      rcases ho with ⟨p, q⟩ | ⟨p, q⟩
      · rw [cl_in (S := ab a + 1) (x := 0 + a) (by omega) (by omega), cl_in (S := ab a + 1) (x := 0 + a + b) (by omega) (by omega), cl_hi (S := ab a + 1) (x := ab a + 1 + a) (by omega) (by omega), cl_in (S := ab a + 1) (x := ab a + 1 + b) (by omega) (by omega)]
        rw [nc r b (0 + a + b) hd (by omega) (by omega) (fun _ => by omega) (fun _ => by omega), nc r b (ab a + 1 + b) hd (by omega) (by omega) (fun _ => by omega) (fun _ => by omega)]
        omega
      · rw [cl_lo (S := ab a + 1) (x := 0 + a) (by omega) (by omega), cl_in (S := ab a + 1) (x := 0 + b) (by omega) (by omega), cl_in (S := ab a + 1) (x := ab a + 1 + a) (by omega) (by omega), cl_in (S := ab a + 1) (x := ab a + 1 + a + b) (by omega) (by omega)]
        rw [nc r b (0 + b) hd (by omega) (by omega) (fun _ => by omega) (fun _ => by omega), nc r b (ab a + 1 + a + b) hd (by omega) (by omega) (fun _ => by omega) (fun _ => by omega)]
        omega
/-- told apart by a room of at most m -/
def Apart (f g : List Int) (m : Int) : Prop := ∃ S x : Int, 0 ≤ x ∧ x ≤ S ∧ S ≤ m ∧ led S f x ≠ led S g x
theorem Apart.symm {f g : List Int} {m : Int} : Apart f g m → Apart g f m
  | ⟨S, x, a, b, c, d⟩ => ⟨S, x, a, b, c, fun e => d e.symm⟩
theorem Apart.mono {f g : List Int} {m n : Int} (h : m ≤ n) : Apart f g m → Apart f g n
  | ⟨S, x, a, b, c, d⟩ => ⟨S, x, a, b, by omega, d⟩
theorem apart_gr {f g : List Int} (hf : Form f) (h : gr f < gr g) : Apart f g (gr f + 1) := by
  have h0 := gr_nn f
  by_cases e : led (gr f + 1) f 0 = led (gr f + 1) g 0
  · refine ⟨gr f + 1, gr f + 1, by omega, by omega, by omega, fun q => vary hf ?_⟩
    rw [q, e]
    exact (const (by omega) (by omega) (by omega) (by omega)).symm
  · exact ⟨gr f + 1, 0, by omega, by omega, by omega, e⟩
/-! ### forms cut in two -/
theorem Form.ne {a : Int} {f : List Int} (h : Form (a :: f)) : a ≠ 0 := by
  cases f with
  | nil => exact h
  | cons b r =>
    rcases h.1 with q | q <;> omega
theorem dn_cut : ∀ (xs : List Int) (a q : Int) (t : List Int), Dn a (xs ++ q :: t) → ab q < ab a ∧ q ≠ 0 ∧ Dn q t
  | [], a, q, t, h => ⟨h.2.1, by rcases h.1 with z | z <;> omega, h.2.2⟩
  | x :: xs, a, q, t, h => by
    have := dn_cut xs x q t h.2.2
    have := h.2.1
    exact ⟨by omega, by omega, (dn_cut xs x q t h.2.2).2.2⟩
/-- a turn that stands somewhere behind the first one -/
theorem form_cut {a : Int} {xs : List Int} {q : Int} {t : List Int} (h : Form (a :: xs ++ q :: t)) : q ≠ 0 ∧ Dn q t ∧ ab q ≤ gr (a :: xs ++ q :: t) := by
  cases xs with
  | nil =>
    have h' : Form (a :: q :: t) := h
    refine ⟨by rcases h'.1 with z | z <;> omega, h'.2, ?_⟩
    show ab q ≤ if ab a < ab q then ab q else ab a
    split <;> omega
  | cons b ys =>
    have h' : Form (a :: b :: (ys ++ q :: t)) := h
    obtain ⟨z1, z2, z3⟩ := dn_cut ys b q t h'.2
    refine ⟨z2, z3, ?_⟩
    show ab q ≤ if ab a < ab b then ab b else ab a
    split <;> omega
/-- the turn ahead of a turn that stands behind the first one -/
theorem dn_cut2 : ∀ (xs : List Int) (a r q : Int) (t : List Int), Dn a (xs ++ r :: q :: t) → opp r q ∧ ab q < ab r
  | [], a, r, q, t, h => ⟨h.2.2.1, h.2.2.2.1⟩
  | x :: xs, a, r, q, t, h => dn_cut2 xs x r q t h.2.2
theorem form_cut2 {a : Int} {xs : List Int} {r q : Int} {t : List Int} (h : Form (a :: xs ++ r :: q :: t)) : opp r q ∧ ab q < ab r := by
  cases xs with
  | nil =>
    have h' : Form (a :: r :: q :: t) := h
    exact ⟨h'.2.1, h'.2.2.1⟩
  | cons b ys =>
    have h' : Form (a :: b :: (ys ++ r :: q :: t)) := h
    exact dn_cut2 ys b r q t h'.2
theorem dn_gr {b : Int} {r : List Int} (h : Dn b r) (hb : b ≠ 0) : gr (b :: r) = ab b := by
  cases r with
  | nil => rfl
  | cons c r =>
    show (if ab b < ab c then ab c else ab b) = ab b
    have := h.2.1
    rw [if_neg (by omega)]
/-- the common end of two lists -/
theorem split_end : ∀ (r s : List Int), r ≠ s → ∃ t : List Int, (∃ r' p s' q, r = t ++ p :: r' ∧ s = t ++ q :: s' ∧ p ≠ q) ∨ (∃ q s', r = t ∧ s = t ++ q :: s') ∨ (∃ q r', s = t ∧ r = t ++ q :: r')
  | [], [], h => absurd rfl h
  | [], q :: s', _ => ⟨[], .inr (.inl ⟨q, s', rfl, rfl⟩)⟩
  | p :: r', [], _ => ⟨[], .inr (.inr ⟨p, r', rfl, rfl⟩)⟩
  | p :: r, q :: s, h => by
    by_cases e : p = q
    · subst e
      obtain ⟨t, z⟩ := split_end r s (fun q => h (by rw [q]))
      refine ⟨p :: t, ?_⟩
      rcases z with ⟨r', a, s', b, e1, e2, e3⟩ | ⟨b, s', e1, e2⟩ | ⟨b, r', e1, e2⟩
      · exact .inl ⟨r', a, s', b, by rw [e1]; rfl, by rw [e2]; rfl, e3⟩
      · exact .inr (.inl ⟨b, s', by rw [e1], by rw [e2]; rfl⟩)
      · exact .inr (.inr ⟨b, r', by rw [e1], by rw [e2]; rfl⟩)
    · exact ⟨[], .inl ⟨r, p, s, q, rfl, rfl, e⟩⟩
theorem split_tail (f g : List Int) (h : f ≠ g) : ∃ t : List Int, (∃ f' p g' q, f = f' ++ p :: t ∧ g = g' ++ q :: t ∧ p ≠ q) ∨ (∃ g' q, f = t ∧ g = g' ++ q :: t) ∨ (∃ f' q, g = t ∧ f = f' ++ q :: t) := by
  obtain ⟨t, z⟩ := split_end f.reverse g.reverse (fun e => h (by rw [← List.reverse_reverse f, e, List.reverse_reverse]))
  have rv : ∀ (l u : List Int) (p : Int), l.reverse = t ++ p :: u → l = u.reverse ++ p :: t.reverse := fun l u p e => by
    rw [← List.reverse_reverse l, e, List.reverse_append, List.reverse_cons, List.append_assoc]
    rfl
  have rw0 : ∀ l : List Int, l.reverse = t → l = t.reverse := fun l e => by rw [← e, List.reverse_reverse]
  refine ⟨t.reverse, ?_⟩
  rcases z with ⟨r', a, s', b, e1, e2, e3⟩ | ⟨b, s', e1, e2⟩ | ⟨b, r', e1, e2⟩
  · exact .inl ⟨r'.reverse, a, s'.reverse, b, rv _ _ _ e1, rv _ _ _ e2, e3⟩
  · exact .inr (.inl ⟨s'.reverse, b, rw0 _ e1, rv _ _ _ e2⟩)
  · exact .inr (.inr ⟨r'.reverse, b, rw0 _ e1, rv _ _ _ e2⟩)
/-- one form is the end of another one -/
theorem apart_end {f g' : List Int} {q : Int} (hg : Form (g' ++ q :: f)) (he : gr f = gr (g' ++ q :: f)) : Apart f (g' ++ q :: f) (gr f + 1) := by
  cases f with
  | nil =>
    exfalso
    have e0 : gr ([] : List Int) = 0 := rfl
    cases g' with
    | nil =>
      have h1 : q ≠ 0 := hg
      have e1 : gr ([] ++ [q]) = ab q := rfl
      have := ab_cases q
      omega
    | cons a xs =>
      obtain ⟨h1, _, h3⟩ := form_cut hg
      have := ab_cases q
      omega
  | cons b rest =>
    cases g' with
    | cons a xs =>
      exfalso
      have h1 := form_cut2 hg
      obtain ⟨h2, h3, h4⟩ := form_cut hg
      have e : gr (b :: rest) = ab b := dn_gr h3.2.2 (by rcases h1.1 with z | z <;> omega)
      omega
    | nil =>
      have hg' : Form (q :: b :: rest) := hg
      obtain ⟨ho, hd⟩ := hg'
      have hb : b ≠ 0 := by rcases ho with z | z <;> omega
      have e : gr (b :: rest) = ab b := dn_gr hd hb
      have e2 : gr ([] ++ q :: b :: rest) = if ab q < ab b then ab b else ab q := rfl
      have hq : ab q ≤ ab b := by
        rw [e, e2] at he
        split at he <;> omega
      have cq := ab_cases q
      have cb := ab_cases b
      rw [e]
      rcases ho with ⟨p, z⟩ | ⟨p, z⟩
      · refine ⟨ab b + 1, ab b, by omega, by omega, by omega, ?_⟩
        show led (ab b + 1) rest (cl (ab b + 1) (ab b + b)) ≠ led (ab b + 1) rest (cl (ab b + 1) (cl (ab b + 1) (ab b + q) + b))
        rw [cl_lo (S := ab b + 1) (x := ab b + b) (by omega) (by omega), cl_hi (S := ab b + 1) (x := ab b + q) (by omega) (by omega), cl_in (S := ab b + 1) (x := ab b + 1 + b) (by omega) (by omega)]
        rw [nc rest b 0 hd (by omega) (by omega) (fun _ => by omega) (fun _ => by omega), nc rest b (ab b + 1 + b) hd (by omega) (by omega) (fun _ => by omega) (fun _ => by omega)]
        omega
      · refine ⟨ab b + 1, 1, by omega, by omega, by omega, ?_⟩
        show led (ab b + 1) rest (cl (ab b + 1) (1 + b)) ≠ led (ab b + 1) rest (cl (ab b + 1) (cl (ab b + 1) (1 + q) + b))
        rw [cl_hi (S := ab b + 1) (x := 1 + b) (by omega) (by omega), cl_lo (S := ab b + 1) (x := 1 + q) (by omega) (by omega), cl_in (S := ab b + 1) (x := 0 + b) (by omega) (by omega)]
        rw [nc rest b (ab b + 1) hd (by omega) (by omega) (fun _ => by omega) (fun _ => by omega), nc rest b (0 + b) hd (by omega) (by omega) (fun _ => by omega) (fun _ => by omega)]
        omega
/-- .. the lesser of two unlike turns of one sign ahead of one end -/
theorem apart_two {f' g' t : List Int} {p q : Int} (hf : Form (f' ++ p :: t)) (hg : Form (g' ++ q :: t)) (he : gr (f' ++ p :: t) = gr (g' ++ q :: t)) (hs : (0 < p ∧ 0 < q) ∨ (p < 0 ∧ q < 0)) (hl : ab p < ab q) : Apart (f' ++ p :: t) (g' ++ q :: t) (gr (f' ++ p :: t) + 1) := by
  have cp := ab_cases p
  have cq := ab_cases q
  -- the room one beyond p, where what is ahead of p leads the wall behind p to itself
  have main : (∀ b : Int, b ≠ 0 → ab b = ab p + 1 → Dn b t ∨ True) → ab p ≤ gr (f' ++ p :: t) → (∀ z : Int, 0 ≤ z → z ≤ ab p + 1 → (p < 0 → z ≤ 1) → (0 < p → ab p ≤ z) → led (ab p + 1) t z = z + t.sum) →
      led (ab p + 1) f' (if 0 < p then 0 else ab p + 1) = (if 0 < p then 0 else ab p + 1) → Apart (f' ++ p :: t) (g' ++ q :: t) (gr (f' ++ p :: t) + 1) := by
    intro _ h1 h2 h3
    refine ⟨ab p + 1, if 0 < p then 0 else ab p + 1, by split <;> omega, by split <;> omega, by omega, ?_⟩
    rw [led_app, led_app, h3]
    have rg := led_rng (S := ab p + 1) (by omega) g' (x := if 0 < p then 0 else ab p + 1) (by split <;> omega) (by split <;> omega)
    show led (ab p + 1) t (cl (ab p + 1) ((if 0 < p then 0 else ab p + 1) + p)) ≠ led (ab p + 1) t (cl (ab p + 1) (led (ab p + 1) g' (if 0 < p then 0 else ab p + 1) + q))
    rcases hs with ⟨p0, q0⟩ | ⟨p0, q0⟩
    · rw [if_pos p0] at rg ⊢
      rw [cl_in (S := ab p + 1) (x := 0 + p) (by omega) (by omega), cl_hi (S := ab p + 1) (by omega) (by omega), h2 (0 + p) (by omega) (by omega) (fun _ => by omega) (fun _ => by omega), h2 (ab p + 1) (by omega) (by omega) (fun _ => by omega) (fun _ => by omega)]
      omega
    · rw [if_neg (by omega)] at rg ⊢
      rw [cl_in (S := ab p + 1) (x := ab p + 1 + p) (by omega) (by omega), cl_lo (S := ab p + 1) (by omega) (by omega), h2 (ab p + 1 + p) (by omega) (by omega) (fun _ => by omega) (fun _ => by omega), h2 0 (by omega) (by omega) (fun _ => by omega) (fun _ => by omega)]
      omega
  -- what follows where all that follows is less than p, or as great
  have tail : Dn p t → ∀ z : Int, 0 ≤ z → z ≤ ab p + 1 → (p < 0 → z ≤ 1) → (0 < p → ab p ≤ z) → led (ab p + 1) t z = z + t.sum := fun hd z h0 h1 h2 h3 =>
    nc t p z hd h0 h1 (fun w => by have := h2 w; omega) (fun w => by have := h3 w; omega)
  cases f' with
  | cons a xs =>
    obtain ⟨hp, hd, hgr⟩ := form_cut hf
    refine main (fun _ _ _ => .inr trivial) hgr (tail hd) ?_
    -- the turn ahead of p
    have last : ∀ ys : List Int, ys = a :: xs → ∃ zs r, ys = zs ++ [r] := fun ys e => by
      refine ⟨ys.dropLast, ys.getLast (by rw [e]; simp), ?_⟩
      rw [List.dropLast_concat_getLast]
    obtain ⟨zs, r, e⟩ := last (a :: xs) rfl
    rw [e] at hf ⊢
    rw [List.append_assoc] at hf
    have hf' : Form (zs ++ r :: p :: t) := hf
    rw [led_app]
    show cl (ab p + 1) (led (ab p + 1) zs (if 0 < p then 0 else ab p + 1) + r) = _
    have rg := led_rng (S := ab p + 1) (by omega) zs (x := if 0 < p then 0 else ab p + 1) (by split <;> omega) (by split <;> omega)
    cases zs with
    | nil =>
      have ho : opp r p := hf'.1
      show cl (ab p + 1) ((if 0 < p then 0 else ab p + 1) + r) = _
      rcases ho with ⟨z, y⟩ | ⟨z, y⟩
      · rw [if_neg (by omega), cl_hi (by omega) (by omega)]
      · rw [if_pos y, cl_lo (by omega) (by omega)]
    | cons c zs =>
      obtain ⟨ho, hlt⟩ := form_cut2 hf'
      have cr := ab_cases r
      rcases ho with ⟨z, y⟩ | ⟨z, y⟩
      · rw [if_neg (by omega)] at rg ⊢
        rw [cl_hi (by omega) (by omega)]
      · rw [if_pos y] at rg ⊢
        rw [cl_lo (by omega) (by omega)]
  | nil =>
    have hp : p ≠ 0 := by omega
    cases t with
    | nil => exact main (fun _ _ _ => .inr trivial) (by show ab p ≤ ab p; omega) (tail trivial) rfl
    | cons s t' =>
      have hf' : Form (p :: s :: t') := hf
      obtain ⟨ho, hd⟩ := hf'
      have cs := ab_cases s
      have eg : gr ([] ++ p :: s :: t') = if ab p < ab s then ab s else ab p := rfl
      by_cases hps : ab s ≤ ab p
      · refine main (fun _ _ _ => .inr trivial) (by rw [eg]; split <;> omega) (fun z h0 h1 h2 h3 => ?_) rfl
        show led (ab p + 1) t' (cl (ab p + 1) (z + s)) = z + (s :: t').sum
        have w : 0 ≤ z + s ∧ z + s ≤ ab p + 1 := by
          rcases ho with ⟨a, b⟩ | ⟨a, b⟩
          · have := h3 a
            omega
          · have := h2 a
            omega
        rw [cl_in w.1 w.2, nc t' s (z + s) hd w.1 w.2 (fun _ => by omega) (fun _ => by omega), List.sum_cons]
        omega
      · rw [if_pos (by omega)] at eg
        cases g' with
        | cons a xs =>
          exfalso
          have h1 := form_cut2 hg
          obtain ⟨_, _, h4⟩ := form_cut hg
          omega
        | nil =>
          have e2 : gr ([] ++ q :: s :: t') = if ab q < ab s then ab s else ab q := rfl
          have hq : ab q ≤ ab s := by
            rw [eg, e2] at he
            split at he <;> omega
          rw [eg]
          rcases ho with ⟨p0, s0⟩ | ⟨p0, s0⟩
          · refine ⟨ab s + 1, ab s - p, by omega, by omega, by omega, ?_⟩
            show led (ab s + 1) t' (cl (ab s + 1) (cl (ab s + 1) (ab s - p + p) + s)) ≠ led (ab s + 1) t' (cl (ab s + 1) (cl (ab s + 1) (ab s - p + q) + s))
            rw [cl_in (S := ab s + 1) (x := ab s - p + p) (by omega) (by omega), cl_in (S := ab s + 1) (x := ab s - p + p + s) (by omega) (by omega), cl_hi (S := ab s + 1) (x := ab s - p + q) (by omega) (by omega), cl_in (S := ab s + 1) (x := ab s + 1 + s) (by omega) (by omega)]
            rw [nc t' s (ab s - p + p + s) hd (by omega) (by omega) (fun _ => by omega) (fun _ => by omega), nc t' s (ab s + 1 + s) hd (by omega) (by omega) (fun _ => by omega) (fun _ => by omega)]
            omega
          · refine ⟨ab s + 1, 1 - p, by omega, by omega, by omega, ?_⟩
            show led (ab s + 1) t' (cl (ab s + 1) (cl (ab s + 1) (1 - p + p) + s)) ≠ led (ab s + 1) t' (cl (ab s + 1) (cl (ab s + 1) (1 - p + q) + s))
            rw [cl_in (S := ab s + 1) (x := 1 - p + p) (by omega) (by omega), cl_hi (S := ab s + 1) (x := 1 - p + p + s) (by omega) (by omega), cl_lo (S := ab s + 1) (x := 1 - p + q) (by omega) (by omega), cl_in (S := ab s + 1) (x := 0 + s) (by omega) (by omega)]
            rw [nc t' s (ab s + 1) hd (by omega) (by omega) (fun _ => by omega) (fun _ => by omega), nc t' s (0 + s) hd (by omega) (by omega) (fun _ => by omega) (fun _ => by omega)]
            omega
theorem form_last {f' : List Int} {p : Int} {t : List Int} (hf : Form (f' ++ p :: t)) : p ≠ 0 ∧ (∀ s r, t = s :: r → opp p s) := by
  cases f' with
  | nil =>
    refine ⟨Form.ne (f := t) hf, fun s r e => ?_⟩
    subst e
    have h' : Form (p :: s :: r) := hf
    exact h'.1
  | cons a xs =>
    obtain ⟨h1, h2, _⟩ := form_cut hf
    refine ⟨h1, fun s r e => ?_⟩
    subst e
    exact h2.1
/-- unlike forms are told apart -/
theorem apart {f g : List Int} (hf : Form f) (hg : Form g) (h : f ≠ g) : Apart f g ((if gr f < gr g then gr f else gr g) + 1) := by
  by_cases h1 : gr f < gr g
  · rw [if_pos h1]
    exact apart_gr hf h1
  · rw [if_neg h1]
    by_cases h2 : gr g < gr f
    · exact (apart_gr hg h2).symm
    · have he : gr f = gr g := by omega
      obtain ⟨t, z⟩ := split_tail f g h
      rcases z with ⟨f', p, g', q, e1, e2, e3⟩ | ⟨g', q, e1, e2⟩ | ⟨f', q, e1, e2⟩
      · subst e1
        subst e2
        obtain ⟨p0, pt⟩ := form_last hf
        obtain ⟨q0, qt⟩ := form_last hg
        by_cases hs : (0 < p ∧ 0 < q) ∨ (p < 0 ∧ q < 0)
        · have cp := ab_cases p
          have cq := ab_cases q
          by_cases hl : ab p < ab q
          · rw [← he]
            exact apart_two hf hg he hs hl
          · exact (apart_two hg hf he.symm (by omega) (by omega)).symm
        · -- unlike signs: nothing follows
          have ht : t = [] := by
            cases t with
            | nil => rfl
            | cons s r =>
              have a := pt s r rfl
              have b := qt s r rfl
              exfalso
              rcases a with a | a <;> rcases b with b | b <;> omega
          subst ht
          have rf := led_rng (S := 1) (by omega) f' (x := 0) (by omega) (by omega)
          have rg := led_rng (S := 1) (by omega) g' (x := 0) (by omega) (by omega)
          refine ⟨1, 0, by omega, by omega, by have := gr_nn (g' ++ [q]); omega, ?_⟩
          rw [led_app, led_app]
          show cl 1 (led 1 f' 0 + p) ≠ cl 1 (led 1 g' 0 + q)
          by_cases hp : 0 < p
          · rw [cl_hi (S := 1) (x := led 1 f' 0 + p) (by omega) (by omega), cl_lo (S := 1) (x := led 1 g' 0 + q) (by omega) (by omega)]
            omega
          · rw [cl_lo (S := 1) (x := led 1 f' 0 + p) (by omega) (by omega), cl_hi (S := 1) (x := led 1 g' 0 + q) (by omega) (by omega)]
            omega
      · subst e1
        subst e2
        rw [← he]
        exact apart_end hg he
      · subst e1
        subst e2
        exact (apart_end hf he.symm).symm
end K37
set_option Elab.async false
set_option linter.all false
set_option maxRecDepth 100000
set_option maxHeartbeats 4000000
namespace K37
open PySem L2 My
def topS (i : Nat) : Stmt := PySem.Challenge.pw_listwindow_k37_short_forms_in_all_rooms.main.body.getD i (.Pass ⟨0, 0, 0, 0⟩)
abbrev s_add_turn : Stmt := topS 1
theorem sc_add_turn : FnScope ["form", "turn", "waiting", "middle"] ["form", "turn"] (defScope s_add_turn) := ⟨rfl, rfl, rfl, by decide +kernel, rfl, by decide +kernel, by decide +kernel⟩
abbrev s_form_in : Stmt := topS 2
theorem sc_form_in : FnScope ["turns", "found", "turn"] ["turns"] (defScope s_form_in) := ⟨rfl, rfl, rfl, by decide +kernel, rfl, by decide +kernel, by decide +kernel⟩
abbrev s_short_form : Stmt := topS 3
theorem sc_short_form : FnScope ["turns"] ["turns"] (defScope s_short_form) := ⟨rfl, rfl, rfl, by decide +kernel, rfl, by decide +kernel, by decide +kernel⟩
abbrev s_is_short : Stmt := topS 4
theorem sc_is_short : FnScope ["turns"] ["turns"] (defScope s_is_short) := ⟨rfl, rfl, rfl, by decide +kernel, rfl, by decide +kernel, by decide +kernel⟩
abbrev s_turns_alike : Stmt := topS 5
theorem sc_turns_alike : FnScope ["one", "other"] ["one", "other"] (defScope s_turns_alike) := ⟨rfl, rfl, rfl, by decide +kernel, rfl, by decide +kernel, by decide +kernel⟩
abbrev s__law_jug : Stmt := topS 7
theorem sc__law_jug : FnScope ["_law_script", "_law_k", "_law_cell"] ["_law_script", "_law_k"] (defScope s__law_jug) := ⟨rfl, rfl, rfl, by decide +kernel, rfl, by decide +kernel, by decide +kernel⟩
abbrev s__law_pour : Stmt := topS 8
theorem sc__law_pour : FnScope ["_law_jug_here", "_law_many", "_law_found", "_law_mixed"] ["_law_jug_here", "_law_many"] (defScope s__law_pour) := ⟨rfl, rfl, rfl, by decide +kernel, rfl, by decide +kernel, by decide +kernel⟩
abbrev s__law_turns : Stmt := topS 9
theorem sc__law_turns : FnScope ["_law_jug_here", "_law_most", "_law_size", "_law_many", "_law_turn"] ["_law_jug_here", "_law_most", "_law_size"] (defScope s__law_turns) := ⟨rfl, rfl, rfl, by decide +kernel, rfl, by decide +kernel, by decide +kernel⟩
abbrev s__law_led : Stmt := topS 10
theorem sc__law_led : FnScope ["_law_size", "_law_turns_here", "_law_scroll", "_law_turn"] ["_law_size", "_law_turns_here", "_law_scroll"] (defScope s__law_led) := ⟨rfl, rfl, rfl, by decide +kernel, rfl, by decide +kernel, by decide +kernel⟩
abbrev s__law_greatest : Stmt := topS 11
theorem sc__law_greatest : FnScope ["_law_turns_here", "_law_turn"] ["_law_turns_here"] (defScope s__law_greatest) := ⟨rfl, rfl, rfl, by decide +kernel, rfl, by decide +kernel, by decide +kernel⟩
abbrev s__law_same : Stmt := topS 12
theorem sc__law_same : FnScope ["_law_one", "_law_other", "_law_most", "_law_size", "_law_scroll"] ["_law_one", "_law_other", "_law_most"] (defScope s__law_same) := ⟨rfl, rfl, rfl, by decide +kernel, rfl, by decide +kernel, by decide +kernel⟩
abbrev s__law_is_form : Stmt := topS 13
theorem sc__law_is_form : FnScope ["_law_form", "_law_spot", "_law_turn"] ["_law_form"] (defScope s__law_is_form) := ⟨rfl, rfl, rfl, by decide +kernel, rfl, by decide +kernel, by decide +kernel⟩
abbrev s__law_changed : Stmt := topS 14
theorem sc__law_changed : FnScope ["_law_jug_here", "_law_turns_here", "_law_found", "_law_turn", "_law_way", "_law_part"] ["_law_jug_here", "_law_turns_here"] (defScope s__law_changed) := ⟨rfl, rfl, rfl, by decide +kernel, rfl, by decide +kernel, by decide +kernel⟩
abbrev s__law_form_right : Stmt := topS 15
theorem sc__law_form_right : FnScope ["_law_turns_here", "_law_width", "_law_kept", "_law_form", "_law_turn"] ["_law_turns_here", "_law_width"] (defScope s__law_form_right) := ⟨rfl, rfl, rfl, by decide +kernel, rfl, by decide +kernel, by decide +kernel⟩
abbrev s_law : Stmt := topS 16
theorem sc_law : FnScope ["_law_script", "_law_k", "_law_jug_here", "_law_width", "_law_one", "_law_other", "_law_first", "_law_second", "_law_alike", "_law_most"] ["_law_script"] (defScope s_law) := ⟨rfl, rfl, rfl, by decide +kernel, rfl, by decide +kernel, by decide +kernel⟩
structure Txt (K : PySem.W.Frag) (mg : Str → Option Value) where
  a_add_turn : Addr
  d_add_turn : FuncData
  f_add_turn : Fun K "add_turn" "add_turn" s_add_turn a_add_turn d_add_turn
  g_add_turn : mg "add_turn" = some (.ref a_add_turn)
  a_form_in : Addr
  d_form_in : FuncData
  f_form_in : Fun K "form_in" "form_in" s_form_in a_form_in d_form_in
  g_form_in : mg "form_in" = some (.ref a_form_in)
  a_short_form : Addr
  d_short_form : FuncData
  f_short_form : Fun K "short_form" "short_form" s_short_form a_short_form d_short_form
  g_short_form : mg "short_form" = some (.ref a_short_form)
  a_is_short : Addr
  d_is_short : FuncData
  f_is_short : Fun K "is_short" "is_short" s_is_short a_is_short d_is_short
  g_is_short : mg "is_short" = some (.ref a_is_short)
  a_turns_alike : Addr
  d_turns_alike : FuncData
  f_turns_alike : Fun K "turns_alike" "turns_alike" s_turns_alike a_turns_alike d_turns_alike
  g_turns_alike : mg "turns_alike" = some (.ref a_turns_alike)
  a__law_jug : Addr
  d__law_jug : FuncData
  f__law_jug : Fun K "_law_jug" "_law_jug" s__law_jug a__law_jug d__law_jug
  g__law_jug : mg "_law_jug" = some (.ref a__law_jug)
  a__law_pour : Addr
  d__law_pour : FuncData
  f__law_pour : Fun K "_law_pour" "_law_pour" s__law_pour a__law_pour d__law_pour
  g__law_pour : mg "_law_pour" = some (.ref a__law_pour)
  a__law_turns : Addr
  d__law_turns : FuncData
  f__law_turns : Fun K "_law_turns" "_law_turns" s__law_turns a__law_turns d__law_turns
  g__law_turns : mg "_law_turns" = some (.ref a__law_turns)
  a__law_led : Addr
  d__law_led : FuncData
  f__law_led : Fun K "_law_led" "_law_led" s__law_led a__law_led d__law_led
  g__law_led : mg "_law_led" = some (.ref a__law_led)
  a__law_greatest : Addr
  d__law_greatest : FuncData
  f__law_greatest : Fun K "_law_greatest" "_law_greatest" s__law_greatest a__law_greatest d__law_greatest
  g__law_greatest : mg "_law_greatest" = some (.ref a__law_greatest)
  a__law_same : Addr
  d__law_same : FuncData
  f__law_same : Fun K "_law_same" "_law_same" s__law_same a__law_same d__law_same
  g__law_same : mg "_law_same" = some (.ref a__law_same)
  a__law_is_form : Addr
  d__law_is_form : FuncData
  f__law_is_form : Fun K "_law_is_form" "_law_is_form" s__law_is_form a__law_is_form d__law_is_form
  g__law_is_form : mg "_law_is_form" = some (.ref a__law_is_form)
  a__law_changed : Addr
  d__law_changed : FuncData
  f__law_changed : Fun K "_law_changed" "_law_changed" s__law_changed a__law_changed d__law_changed
  g__law_changed : mg "_law_changed" = some (.ref a__law_changed)
  a__law_form_right : Addr
  d__law_form_right : FuncData
  f__law_form_right : Fun K "_law_form_right" "_law_form_right" s__law_form_right a__law_form_right d__law_form_right
  g__law_form_right : mg "_law_form_right" = some (.ref a__law_form_right)
  a_law : Addr
  d_law : FuncData
  f_law : Fun K "law" "law" s_law a_law d_law
  g_law : mg "law" = some (.ref a_law)
  z_len : mg "len" = none
  z_abs : mg "abs" = none
  z_max : mg "max" = none
  z_int : mg "int" = none
  z_range : mg "range" = none
  z_min : mg "min" = none
  z_enumerate : mg "enumerate" = none
  z_list : mg "list" = none
  z_isinstance : mg "isinstance" = none
  z_bool : mg "bool" = none
theorem b_add_turn {K : PySem.W.Frag} {mg : Str → Option Value} (T : Txt K mg) : Binds K T.d_add_turn ["form", "turn"] [] := T.f_add_turn.binds (ps := ["form", "turn"]) fun _ _ _ _ _ _ us hl => match us, hl with | [_, _], _ => rfl
theorem b_form_in {K : PySem.W.Frag} {mg : Str → Option Value} (T : Txt K mg) : Binds K T.d_form_in ["turns"] [] := T.f_form_in.binds (ps := ["turns"]) fun _ _ _ _ _ _ us hl => match us, hl with | [_], _ => rfl
theorem b_short_form {K : PySem.W.Frag} {mg : Str → Option Value} (T : Txt K mg) : Binds K T.d_short_form ["turns"] [] := T.f_short_form.binds (ps := ["turns"]) fun _ _ _ _ _ _ us hl => match us, hl with | [_], _ => rfl
theorem b_is_short {K : PySem.W.Frag} {mg : Str → Option Value} (T : Txt K mg) : Binds K T.d_is_short ["turns"] [] := T.f_is_short.binds (ps := ["turns"]) fun _ _ _ _ _ _ us hl => match us, hl with | [_], _ => rfl
theorem b_turns_alike {K : PySem.W.Frag} {mg : Str → Option Value} (T : Txt K mg) : Binds K T.d_turns_alike ["one", "other"] [] := T.f_turns_alike.binds (ps := ["one", "other"]) fun _ _ _ _ _ _ us hl => match us, hl with | [_, _], _ => rfl
theorem b__law_jug {K : PySem.W.Frag} {mg : Str → Option Value} (T : Txt K mg) : Binds K T.d__law_jug ["_law_script", "_law_k"] [] := T.f__law_jug.binds (ps := ["_law_script", "_law_k"]) fun _ _ _ _ _ _ us hl => match us, hl with | [_, _], _ => rfl
theorem b__law_pour {K : PySem.W.Frag} {mg : Str → Option Value} (T : Txt K mg) : Binds K T.d__law_pour ["_law_jug_here", "_law_many"] [] := T.f__law_pour.binds (ps := ["_law_jug_here", "_law_many"]) fun _ _ _ _ _ _ us hl => match us, hl with | [_, _], _ => rfl
theorem b__law_turns {K : PySem.W.Frag} {mg : Str → Option Value} (T : Txt K mg) : Binds K T.d__law_turns ["_law_jug_here", "_law_most", "_law_size"] [] := T.f__law_turns.binds (ps := ["_law_jug_here", "_law_most", "_law_size"]) fun _ _ _ _ _ _ us hl => match us, hl with | [_, _, _], _ => rfl
theorem b__law_led {K : PySem.W.Frag} {mg : Str → Option Value} (T : Txt K mg) : Binds K T.d__law_led ["_law_size", "_law_turns_here", "_law_scroll"] [] := T.f__law_led.binds (ps := ["_law_size", "_law_turns_here", "_law_scroll"]) fun _ _ _ _ _ _ us hl => match us, hl with | [_, _, _], _ => rfl
theorem b__law_greatest {K : PySem.W.Frag} {mg : Str → Option Value} (T : Txt K mg) : Binds K T.d__law_greatest ["_law_turns_here"] [] := T.f__law_greatest.binds (ps := ["_law_turns_here"]) fun _ _ _ _ _ _ us hl => match us, hl with | [_], _ => rfl
theorem b__law_same {K : PySem.W.Frag} {mg : Str → Option Value} (T : Txt K mg) : Binds K T.d__law_same ["_law_one", "_law_other", "_law_most"] [] := T.f__law_same.binds (ps := ["_law_one", "_law_other", "_law_most"]) fun _ _ _ _ _ _ us hl => match us, hl with | [_, _, _], _ => rfl
theorem b__law_is_form {K : PySem.W.Frag} {mg : Str → Option Value} (T : Txt K mg) : Binds K T.d__law_is_form ["_law_form"] [] := T.f__law_is_form.binds (ps := ["_law_form"]) fun _ _ _ _ _ _ us hl => match us, hl with | [_], _ => rfl
theorem b__law_changed {K : PySem.W.Frag} {mg : Str → Option Value} (T : Txt K mg) : Binds K T.d__law_changed ["_law_jug_here", "_law_turns_here"] [] := T.f__law_changed.binds (ps := ["_law_jug_here", "_law_turns_here"]) fun _ _ _ _ _ _ us hl => match us, hl with | [_, _], _ => rfl
theorem b__law_form_right {K : PySem.W.Frag} {mg : Str → Option Value} (T : Txt K mg) : Binds K T.d__law_form_right ["_law_turns_here", "_law_width"] [] := T.f__law_form_right.binds (ps := ["_law_turns_here", "_law_width"]) fun _ _ _ _ _ _ us hl => match us, hl with | [_, _], _ => rfl
theorem b_law {K : PySem.W.Frag} {mg : Str → Option Value} (T : Txt K mg) : Binds K T.d_law ["_law_script"] [] := T.f_law.binds (ps := ["_law_script"]) fun _ _ _ _ _ _ us hl => match us, hl with | [_], _ => rfl
theorem kb_short_form_0_turns {K : PySem.W.Frag} {mg : Str → Option Value} (T : Txt K mg) : KBinds K T.d_short_form ["turns"] ["turns"] (kg 0 1 [0]) (kg 0 1 [0]) := kbinds 0 1 [0] T.f_short_form (by decide) fun _ _ _ _ _ _ us ws h1 h2 => match us, h1, ws, h2 with | [], _, [_], _ => rfl
theorem kb_is_short_0_turns {K : PySem.W.Frag} {mg : Str → Option Value} (T : Txt K mg) : KBinds K T.d_is_short ["turns"] ["turns"] (kg 0 1 [0]) (kg 0 1 [0]) := kbinds 0 1 [0] T.f_is_short (by decide) fun _ _ _ _ _ _ us ws h1 h2 => match us, h1, ws, h2 with | [], _, [_], _ => rfl
theorem kb_turns_alike_0_one_other {K : PySem.W.Frag} {mg : Str → Option Value} (T : Txt K mg) : KBinds K T.d_turns_alike ["one", "other"] ["one", "other"] (kg 0 2 [0, 1]) (kg 0 2 [0, 1]) := kbinds 0 2 [0, 1] T.f_turns_alike (by decide) fun _ _ _ _ _ _ us ws h1 h2 => match us, h1, ws, h2 with | [], _, [_, _], _ => rfl
end K37
set_option Elab.async false
set_option linter.all false
set_option maxRecDepth 100000
set_option maxHeartbeats 4000000
namespace K37
open PySem L2 My
/-! ### the jug -/
/-- a jug of draws stands at j, of which at most B were mixed -/
def Jug (H : Hp) (j : Addr) (B : Int) : Prop := ∃ x y z : Int, H j = some (.lst [.int x, .int y, .int z]) ∧ 0 ≤ y ∧ y < 2 ^ 200 ∧ 0 ≤ z ∧ z ≤ B
theorem Jug.ex {H H' : Hp} {j : Addr} {B : Int} (e : Ex H H') : Jug H j B → Jug H' j B
  | ⟨x, y, z, h, r⟩ => ⟨x, y, z, e _ _ h, r⟩
theorem Jug.mono {H : Hp} {j : Addr} {B B' : Int} (h : B ≤ B') : Jug H j B → Jug H j B'
  | ⟨x, y, z, h1, h2, h3, h4, h5⟩ => ⟨x, y, z, h1, h2, h3, h4, by omega⟩
theorem at0 {α : Type} {a : α} {l : List α} : atI (a :: l) 0 = some a := atI_nat (j := 0) rfl
theorem at1 {α : Type} {a b : α} {l : List α} : atI (a :: b :: l) 1 = some b := atI_nat (j := 1) rfl
theorem at2 {α : Type} {a b c : α} {l : List α} : atI (a :: b :: c :: l) 2 = some c := atI_nat (j := 2) rfl
theorem mix_lt {m z : Int} (h0 : 0 ≤ m) (h1 : m < 2 ^ 200) (z0 : 0 ≤ z) (z1 : z ≤ 2 ^ 60) : (m + 13466917 * (z + 1)).natAbs < 2 ^ 210 := by omega
def sp__law_pour : Sp := fun vs H Q _ => ∃ (j : Addr) (many B : Int), vs = [.ref j, .int many] ∧ Jug H j B ∧ B ≤ 2 ^ 60 ∧ 0 < many ∧ many < 2 ^ 200 ∧
  ∀ (n : Int) (H' : Hp), 0 ≤ n → n < many → Exj j H H' → Jug H' j (B + 1) → Q (.int n) H'
section
variable {P : Program} {w : World} {K : PySem.W.Frag} {mg : Str → Option Value} {base : Heap}
theorem ok__law_pour (T : Txt K mg) : FnOk P w K mg base CX0 1 T.a__law_pour T.d__law_pour ["_law_jug_here", "_law_many"] sp__law_pour := by
  refine T.f__law_pour.ok sc__law_pour (fun vs H Q E h => ?_) (fun cdv A outer s H vs Q E hr h => ?_)
  · obtain ⟨j, many, B, rfl, _⟩ := h
    rfl
  · obtain ⟨j, many, B, rfl, ⟨x, y, z, hj, y0, y1, z0, z1⟩, hB, m0, m1, k⟩ := h
    refine ⟨_, (pss_cons (ps_if (pt_cmpR op_gt (pe_ix ix_list (pv 0) pe_int (fun _ _ => rfl)) pe_int (nomark _)) (pss_cons (ps_set (i := 2) sc__law_pour.nd rfl (by first | exact Or.inl rfl | exact Or.inr rfl) (pe_op op_mod (pe_callTy call_int1 (by rfl) T.z_int (by decide +kernel) (pa_cons (pe_ix ix_list (pv 0) pe_int (fun _ _ => rfl)) pa_nil)) (pv 1))) (pss_cons (ps_asg (pe_op op_fdivW (pe_ix ix_list (pv 0) pe_int (fun _ _ => rfl)) (pv 1)) (pg_sub (pv 0) pe_int set_list)) (pss_one (ps_ret (pv 2))))) pss_nil) (pss_cons (ps_asg (pe_op op_add (pe_ix ix_list (pv 0) pe_int (fun _ _ => rfl)) pe_int) (pg_sub (pv 0) pe_int set_list)) (pss_cons (ps_set (i := 3) sc__law_pour.nd rfl (by first | exact Or.inl rfl | exact Or.inr rfl) (pe_op op_mod (pe_callTy call_int1 (by rfl) T.z_int (by decide +kernel) (pa_cons (pe_op op_powW (pe_op op_add (pe_ix ix_list (pv 0) pe_int (fun _ _ => rfl)) (pe_op op_mulW pe_int (pe_ix ix_list (pv 0) pe_int (fun _ _ => rfl)))) pe_int) pa_nil)) (pe_op op_add (pe_op op_powW pe_int pe_int) pe_int))) (pss_cons (ps_set (i := 3) sc__law_pour.nd rfl (by first | exact Or.inl rfl | exact Or.inr rfl) (pe_op op_mod (pe_callTy call_int1 (by rfl) T.z_int (by decide +kernel) (pa_cons (pe_op op_powW (pe_op op_add (pv 3) (pe_op op_mulW pe_int (pe_ix ix_list (pv 0) pe_int (fun _ _ => rfl)))) pe_int) pa_nil)) (pe_op op_add (pe_op op_powW pe_int pe_int) pe_int))) (pss_one (ps_ret (pe_op op_mod (pe_op op_fdivW (pv 3) pe_int) (pv 1)))))))), ?_⟩
    have sq : ∀ {H' : Hp} {l : List V}, H' j = some (.lst l) → SqL K H' j l := fun h => sqI h
    have m2 : many.natAbs < 2 ^ 200 := by omega
    -- if _law_jug_here[0] > 0:
    refine ⟨_, rfl, _, _, _, _, rfl, rfl, sq hj, at0, _, _, rfl, rfl, _, rfl, ?_⟩
    refine ite2 (fun c => ?_) (fun c => ?_)
    · -- _law_found = int(_law_jug_here[0]) % _law_many
      refine ⟨_, rfl, _, _, _, _, rfl, rfl, sq hj, at0, .inl ⟨_, rfl, ?_⟩⟩
      refine ⟨_, rfl, _, _, rfl, rfl, m0, ?_⟩
      -- _law_jug_here[0] = _law_jug_here[0] // _law_many
      refine ⟨_, rfl, _, _, _, _, rfl, rfl, sq hj, at0, _, rfl, _, _, rfl, rfl, wide_div m0 m2 (by decide) (by decide), _, rfl, _, _, _, _, rfl, rfl, hj, (show _ = some 0 from rfl), ?_⟩
      -- return _law_found
      refine ⟨_, rfl, ?_⟩
      exact k _ _ (Int.emod_nonneg _ (by omega)) (Int.emod_lt_of_pos _ m0) (Exj.refl _ _).upd ⟨_, y, z, upd_same, y0, y1, z0, by omega⟩
    · -- _law_jug_here[2] = _law_jug_here[2] + 1
      refine ⟨_, rfl, _, _, _, _, rfl, rfl, sq hj, at2, _, _, rfl, rfl, _, rfl, _, _, _, _, rfl, rfl, hj, (show _ = some 2 from rfl), ?_⟩
      have hj1 : upd H j (.lst [.int x, .int y, .int (z + 1)]) j = some (.lst [.int x, .int y, .int (z + 1)]) := upd_same
      have ez : (z + 1).natAbs < 2 ^ 70 := by omega
      have b1 : (y + 24036583 * (z + 1)).natAbs < 2 ^ 210 := by omega
      -- _law_mixed = ..
      refine ⟨_, rfl, _, _, _, _, rfl, rfl, sq hj1, at1, _, rfl, _, _, _, _, rfl, rfl, sq hj1, at2, _, _, rfl, rfl, wide_mul (a := 30) (b := 70) (by decide) ez (by decide) (by decide) (by decide), _, _, rfl, rfl, _, _, rfl, rfl, powW_of (j := 3) b1 (by decide) (by decide), .inl ⟨_, rfl, ?_⟩⟩
      refine ⟨_, _, rfl, rfl, (show CPowW 10 42 by constructor <;> decide +kernel), _, _, rfl, rfl, _, _, rfl, rfl, (show (0 : Int) < 10 ^ (42 : Int).toNat + 63 by decide +kernel), ?_⟩
      -- the first mixture by a letter
      have q0 := Int.emod_nonneg ((y + 24036583 * (z + 1)) ^ (3 : Int).toNat) (show ((10 : Int) ^ (42 : Int).toNat + 63) ≠ 0 by decide +kernel)
      have q1 := Int.emod_lt_of_pos ((y + 24036583 * (z + 1)) ^ (3 : Int).toNat) (show 0 < ((10 : Int) ^ (42 : Int).toNat + 63) by decide +kernel)
      have q2 : ((10 : Int) ^ (42 : Int).toNat + 63) < 2 ^ 200 := by decide +kernel
      have b2 := mix_lt (z := z) q0 (Int.lt_trans q1 q2) z0 (Int.le_trans z1 hB)
      -- _law_mixed = ..
      refine ⟨_, rfl, _, rfl, _, _, _, _, rfl, rfl, sq hj1, at2, _, _, rfl, rfl, wide_mul (a := 30) (b := 70) (by decide) ez (by decide) (by decide) (by decide), _, _, rfl, rfl, _, _, rfl, rfl, powW_of (j := 3) b2 (by decide) (by decide), .inl ⟨_, rfl, ?_⟩⟩
      refine ⟨_, _, rfl, rfl, (show CPowW 10 44 by constructor <;> decide +kernel), _, _, rfl, rfl, _, _, rfl, rfl, (show (0 : Int) < 10 ^ (44 : Int).toNat + 57 by decide +kernel), ?_⟩
      -- return _law_mixed // 1299709 % _law_many
      refine ⟨_, rfl, _, _, rfl, rfl, wide_div (b := 40) (by decide) (by decide) (by decide) (by decide), _, rfl, _, _, rfl, rfl, m0, ?_⟩
      exact k _ _ (Int.emod_nonneg _ (by omega)) (Int.emod_lt_of_pos _ m0) (Exj.refl _ _).upd ⟨x, y, z + 1, upd_same, y0, y1, by omega, by omega⟩
end
end K37
set_option Elab.async false
set_option linter.all false
set_option maxRecDepth 100000
set_option maxHeartbeats 4000000
namespace K37
open PySem L2 My
theorem lastG {α : Type} (l : List α) (v : α) : (l ++ [v])[(l ++ [v]).length - 1]? = some v := by simp
theorem lastI {α : Type} (l : List α) (v : α) : ixN (l ++ [v]).length (-1) = some l.length := by
  unfold ixN
  rw [if_neg (by decide), if_pos (by simp; omega)]
  simp
  omega
theorem lastS {α : Type} (l : List α) (v z : α) : (l ++ [v]).set l.length z = l ++ [z] := by simp
/-- a stack as the list that stands in the heap -/
abbrev ls (r : List Int) : List V := r.reverse.map V.int
theorem ls_cons (a : Int) (r : List Int) : ls (a :: r) = ls r ++ [V.int a] := by
  show (a :: r).reverse.map V.int = r.reverse.map V.int ++ [V.int a]
  rw [List.reverse_cons, List.map_append]
  rfl
theorem add_zero (r : List Int) : add r 0 = r := by
  cases r with
  | nil =>
    unfold add
    rw [if_pos rfl]
  | cons a r =>
    unfold add
    rw [if_pos rfl]
theorem add_nil {w : Int} (h : w ≠ 0) : add [] w = [w] := by
  unfold add
  rw [if_neg h]
theorem add_same {a w : Int} {r : List Int} (h : w ≠ 0) (h1 : decide (a > 0) = decide (w > 0)) : add (a :: r) w = add r (w + a) := by
  conv => lhs; unfold add
  rw [if_neg h, if_pos h1]
theorem add_one {a w : Int} (h : w ≠ 0) (h1 : ¬ decide (a > 0) = decide (w > 0)) : add [a] w = [w, a] := by
  unfold add
  rw [if_neg h, if_neg h1]
theorem add_mid {a p w : Int} {r : List Int} (h : w ≠ 0) (h1 : ¬ decide (a > 0) = decide (w > 0)) (h2 : ab a ≤ ab w) (h3 : ab a ≤ ab p) : add (a :: p :: r) w = add r (w + a + p) := by
  conv => lhs; unfold add
  rw [if_neg h, if_neg h1]
  dsimp only
  rw [if_pos h2, if_pos h3]
theorem add_low {a p w : Int} {r : List Int} (h : w ≠ 0) (h1 : ¬ decide (a > 0) = decide (w > 0)) (h2 : ab a ≤ ab w) (h3 : ¬ ab a ≤ ab p) : add (a :: p :: r) w = add ((p + a) :: r) w := by
  conv => lhs; unfold add
  rw [if_neg h, if_neg h1]
  dsimp only
  rw [if_pos h2, if_neg h3]
theorem add_top {a p w : Int} {r : List Int} (h : w ≠ 0) (h1 : ¬ decide (a > 0) = decide (w > 0)) (h2 : ¬ ab a ≤ ab w) : add (a :: p :: r) w = w :: a :: p :: r := by
  unfold add
  rw [if_neg h, if_neg h1]
  dsimp only
  rw [if_neg h2]
theorem mapI_get {ts : List Int} {i : Nat} {x : V} (h : (ts.map V.int)[i]? = some x) : ∃ t, ts[i]? = some t ∧ x = V.int t := by
  rw [List.getElem?_map] at h
  cases e : ts[i]? with
  | none =>
    rw [e] at h
    cases h
  | some t =>
    rw [e] at h
    exact ⟨t, rfl, (Option.some.inj h).symm⟩
theorem take_next {α : Type} {l : List α} {i : Nat} {x : α} (h : l[i]? = some x) : l.take (i + 1) = l.take i ++ [x] := by
  rw [List.take_add_one, h]
  rfl
def sp_add_turn : Sp := fun vs H Q _ => ∃ (f : Addr) (r : List Int) (w : Int), vs = [.ref f, .int w] ∧ H f = some (.lst (ls r)) ∧ r.length ≤ 1000 ∧
  ∀ H' : Hp, Exj f H H' → H' f = some (.lst (ls (add r w))) → Q .non H'
def sp_form_in (K : PySem.W.Frag) : Sp := fun vs H Q _ => ∃ (a : Addr) (ts : List Int), vs = [.ref a] ∧ SqL K H a (ts.map V.int) ∧ ts.length ≤ 500 ∧ Evl.RetL ((form ts).map V.int) H Q
abbrev sp_short_form := sp_form_in
def sp_is_short (K : PySem.W.Frag) : Sp := fun vs H Q _ => ∃ (a : Addr) (ts : List Int), vs = [.ref a] ∧ SqL K H a (ts.map V.int) ∧ ts.length ≤ 500 ∧ Evl.RetV (.bl (decide (form ts = ts))) H Q
def sp_turns_alike (K : PySem.W.Frag) : Sp := fun vs H Q _ => ∃ (a b : Addr) (ts us : List Int), vs = [.ref a, .ref b] ∧ SqL K H a (ts.map V.int) ∧ SqL K H b (us.map V.int) ∧ ts.length ≤ 500 ∧ us.length ≤ 500 ∧ Evl.RetV (.bl (decide (form ts = form us))) H Q
section
variable {P : Program} {w : World} {K : PySem.W.Frag} {mg : Str → Option Value} {base : Heap}
theorem ok_add_turn (T : Txt K mg) : FnOk P w K mg base CX0 1 T.a_add_turn T.d_add_turn ["form", "turn"] sp_add_turn := by
  refine T.f_add_turn.ok sc_add_turn (fun vs H Q E h => ?_) (fun cdv A outer s H vs Q E hr h => ?_)
  · obtain ⟨f, r, w, rfl, _⟩ := h
    rfl
  · obtain ⟨f, r, w, rfl, hf, hl, k⟩ := h
    refine ⟨_, (pss_cons (ps_set (i := 2) sc_add_turn.nd rfl (by first | exact Or.inl rfl | exact Or.inr rfl) (pv 1)) (pss_one (ps_while PassesOwn.never (pt_cmpR op_ne (pv 2) pe_int (nomark _)) (pss_one (ps_if (PW.pt (pw_and (pt_cmpR (op_neD hr.units) (pv 0) (pe_lstG pa_nil) (nomark _)) (pw_and1 (pt_cmpR op_eq (pe_cmpR op_gt (pe_ix ix_list (pv 0) (pe_un un_neg pe_int) (fun _ _ => rfl)) pe_int (nomark _)) (pe_cmpR op_gt (pv 2) pe_int (nomark _)) (nomark _))))) (pss_one (ps_set (i := 2) sc_add_turn.nd rfl (by first | exact Or.inl rfl | exact Or.inr rfl) (pe_op op_add (pv 2) (pe_bm0 PySem.F.plainAttrs_list PySem.F.slot_list_pop PySem.F.type_list_pop mt_pop (pv 0))))) (pss_one (ps_if (PW.pt (pw_and (pt_cmpR op_gt (pe_callB call_len_seq (by rfl) T.z_len PySem.boot_len (pa_cons (pv 0) pa_nil)) pe_int (nomark _)) (pw_and1 (pt_cmpR op_ge (pe_callB call_abs (by rfl) T.z_abs (by decide +kernel) (pa_cons (pv 2) pa_nil)) (pe_callB call_abs (by rfl) T.z_abs (by decide +kernel) (pa_cons (pe_ix ix_list (pv 0) (pe_un un_neg pe_int) (fun _ _ => rfl)) pa_nil)) (nomark _))))) (pss_cons (ps_set (i := 3) sc_add_turn.nd rfl (by first | exact Or.inl rfl | exact Or.inr rfl) (pe_bm0 PySem.F.plainAttrs_list PySem.F.slot_list_pop PySem.F.type_list_pop mt_pop (pv 0))) (pss_one (ps_if (pt_cmpR op_le (pe_callB call_abs (by rfl) T.z_abs (by decide +kernel) (pa_cons (pv 3) pa_nil)) (pe_callB call_abs (by rfl) T.z_abs (by decide +kernel) (pa_cons (pe_ix ix_list (pv 0) (pe_un un_neg pe_int) (fun _ _ => rfl)) pa_nil)) (nomark _)) (pss_one (ps_set (i := 2) sc_add_turn.nd rfl (by first | exact Or.inl rfl | exact Or.inr rfl) (pe_op op_add (pe_op op_add (pv 2) (pv 3)) (pe_bm0 PySem.F.plainAttrs_list PySem.F.slot_list_pop PySem.F.type_list_pop mt_pop (pv 0))))) (pss_one (ps_asg (pe_op op_add (pe_ix ix_list (pv 0) (pe_un un_neg pe_int) (fun _ _ => rfl)) (pv 3)) (pg_sub (pv 0) (pe_un un_neg pe_int) set_list)))))) (pss_cons (ps_expr (pe_bm PySem.F.plainAttrs_list PySem.F.slot_list_append PySem.F.type_list_append mt_append (pv 0) (pa_cons (pv 2) pa_nil))) (pss_one (ps_set (i := 2) sc_add_turn.nd rfl (by first | exact Or.inl rfl | exact Or.inr rfl) pe_int)))))))))), ?_⟩
    -- waiting = turn
    refine ⟨_, rfl, ?_⟩
    -- while waiting != 0:
    refine ⟨fun m σ H' => ∃ (r' : List Int) (w' : Int) (mid : Option V), σ = [some (.ref f), some (.int w), some (.int w'), mid] ∧ add r' w' = add r w ∧ Exj f H H' ∧ H' f = some (.lst (ls r')) ∧ r'.length ≤ 1000 + 1 ∧ (w' ≠ 0 → r'.length ≤ 1000) ∧ m = (if w' = 0 then 0 else r'.length + 1), ⟨_, r, w, _, rfl, rfl, Exj.refl _ _, hf, by omega, fun _ => hl, rfl⟩, ?_⟩
    rintro m σ H' ⟨r', w', mid, rfl, ea, ex, hf', hl1, hl2, rfl⟩
    refine ⟨_, rfl, rfl, _, rfl, ?_⟩
    refine ifB (fun c => ?_) (fun c => ?_)
    · have hw : w' ≠ 0 := by
        intro z
        rw [z] at c
        simp at c
      have hl3 := hl2 hw
      rw [if_neg hw]
      refine ⟨fun σ2 H2 => ∃ (r2 : List Int) (w2 : Int) (mid : Option V), σ2 = [some (.ref f), some (.int w), some (.int w2), mid] ∧ add r2 w2 = add r w ∧ Exj f H H2 ∧ H2 f = some (.lst (ls r2)) ∧ r2.length ≤ 1000 + 1 ∧ (w2 ≠ 0 → r2.length ≤ 1000) ∧ (if w2 = 0 then 0 else r2.length + 1) < r'.length + 1, fun σ2 H2 ⟨r2, w2, mid, h1, h2, h3, h4, h5, h6, h7⟩ => ⟨_, h7, r2, w2, mid, h1, h2, h3, h4, h5, h6, rfl⟩, ?_⟩
      -- what the turn's ways come to
      have fin : ∀ (r2 : List Int) (w2 : Int) (mid : Option V) (H2 : Hp), add r2 w2 = add r' w' → Exj f H' H2 → H2 f = some (.lst (ls r2)) → r2.length ≤ 1000 + 1 → (w2 ≠ 0 → r2.length < r'.length) → 
          ∃ (r2' : List Int) (w2' : Int) (mid' : Option V), [some (.ref f), some (.int w), some (.int w2), mid] = [some (V.ref f), some (.int w), some (.int w2'), mid'] ∧ add r2' w2' = add r w ∧ Exj f H H2 ∧ H2 f = some (.lst (ls r2')) ∧ r2'.length ≤ 1000 + 1 ∧ (w2' ≠ 0 → r2'.length ≤ 1000) ∧ (if w2' = 0 then 0 else r2'.length + 1) < r'.length + 1 :=
        fun r2 w2 mid H2 h1 h2 h3 h4 h5 => ⟨r2, w2, mid, rfl, h1.trans ea, ex.trans h2, h3, h4, fun q => by have := h5 q; omega, by
          split
          · omega
          · rename_i q
            have := h5 q
            omega⟩
      -- form != []
      refine ⟨_, rfl, Nat.zero_le _, fun p1 H1 n1 e1 h1 => ?_⟩
      have hf1 : H1 f = some (.lst (ls r')) := e1 _ _ hf'
      have ex1 : Exj f H' H1 := Exj.of e1
      refine neI_ (xs := r'.reverse) (ys := []) (sqI hf1) (sqI h1) ⟨_, rfl, ?_⟩
      cases r' with
      | nil =>
        refine ifF (by simp) ?_
        refine iteF ?_
        refine ⟨_, rfl, _, _, rfl, .inl (sqI hf1), _, _, rfl, rfl, _, rfl, ?_⟩
        refine ifF (by simp) ?_
        refine iteF ?_
        refine ⟨_, rfl, .inl ⟨rfl, _, sqI hf1⟩, _, rfl, _, _, _, rfl, rfl, hf1, (by decide), ?_⟩
        refine fin [w'] 0 mid _ ?_ ex1.upd upd_same (by simp) (fun q => absurd rfl q)
        rw [add_zero, add_nil hw]
      | cons a r'' =>
        rw [ls_cons] at hf1
        refine ifT (by simp) ?_
        refine ⟨_, rfl, _, rfl, _, _, _, _, rfl, rfl, sqI hf1, atI_last _ _, _, _, rfl, rfl, _, rfl, _, _, rfl, rfl, rfl, _, rfl, ?_⟩
        have es : decide (V.bl (decide (0 < a)) = V.bl (decide (0 < w'))) = decide (decide (a > 0) = decide (w' > 0)) := by
          rw [decide_eq_decide]
          exact ⟨fun q => V.bl.inj q, fun q => congrArg V.bl q⟩
        refine ifB (fun c1 => ?_) (fun c1 => ?_)
        · -- waiting = waiting + form.pop()
          have c2 := of_decide_eq_true (es.symm.trans c1)
          refine ⟨_, rfl, _, rfl, .inl ⟨rfl, _, sqI hf1⟩, _, _, _, rfl, rfl, hf1, lastG _ _, _, _, rfl, rfl, ?_⟩
          refine fin r'' (w' + a) mid _ (add_same hw c2).symm ex1.upd ?_ (by simp at hl1; omega) (fun _ => by simp)
          rw [upd_same, List.dropLast_concat]
        · have c2 := of_decide_eq_false (es.symm.trans c1)
          refine ⟨_, rfl, _, _, rfl, .inl (sqI hf1), _, _, rfl, rfl, _, rfl, ?_⟩
          cases r'' with
          | nil =>
            refine ifF (by simp) ?_
            refine iteF ?_
            refine ⟨_, rfl, .inl ⟨rfl, _, sqI hf1⟩, _, rfl, _, _, _, rfl, rfl, hf1, (by show 1 < sizeLine; decide), ?_⟩
            refine fin [w', a] 0 mid _ ?_ ex1.upd upd_same (by simp) (fun q => absurd rfl q)
            rw [add_zero, add_one hw c2]
          | cons p r3 =>
            refine ifT (by simp; omega) ?_
            refine ⟨_, rfl, _, rfl, _, rfl, _, rfl, _, _, _, _, rfl, rfl, sqI hf1, atI_last _ _, _, rfl, _, _, rfl, rfl, _, rfl, ?_⟩
            refine ifB (fun c3 => ?_) (fun c3 => ?_)
            · have c4 : ab a ≤ ab w' := of_decide_eq_true c3
              -- middle = form.pop()
              refine ⟨_, rfl, .inl ⟨rfl, _, sqI hf1⟩, _, _, _, rfl, rfl, hf1, lastG _ _, ?_⟩
              have hf2 : upd H1 f (.lst (ls (p :: r3) ++ [V.int a]).dropLast) f = some (.lst (ls r3 ++ [V.int p])) := by rw [upd_same, List.dropLast_concat, ls_cons]
              have ex2 : Exj f H' (upd H1 f (.lst (ls (p :: r3) ++ [V.int a]).dropLast)) := ex1.upd
              refine ⟨_, rfl, _, rfl, _, rfl, _, rfl, _, _, _, _, rfl, rfl, sqI hf2, atI_last _ _, _, rfl, _, _, rfl, rfl, _, rfl, ?_⟩
              refine ifB (fun c5 => ?_) (fun c5 => ?_)
              · have c6 : ab a ≤ ab p := of_decide_eq_true c5
                refine ⟨_, rfl, _, rfl, _, _, rfl, rfl, _, rfl, .inl ⟨rfl, _, sqI hf2⟩, _, _, _, rfl, rfl, hf2, lastG _ _, _, _, rfl, rfl, ?_⟩
                refine fin r3 (w' + a + p) _ _ (add_mid hw c2 c4 c6).symm ex2.upd ?_ (by simp at hl1; omega) (fun _ => by simp; omega)
                rw [upd_same, List.dropLast_concat]
              · have c6 : ¬ ab a ≤ ab p := of_decide_eq_false c5
                refine ⟨_, rfl, _, rfl, _, _, _, _, rfl, rfl, sqI hf2, atI_last _ _, _, rfl, _, _, rfl, rfl, _, rfl, _, rfl, _, _, _, _, rfl, rfl, hf2, lastI _ _, ?_⟩
                refine fin ((p + a) :: r3) w' _ _ (add_low hw c2 c4 c6).symm ex2.upd ?_ (by simp at hl1 ⊢; omega) (fun _ => by simp)
                rw [upd_same, lastS, ls_cons]
            · have c4 : ¬ ab a ≤ ab w' := of_decide_eq_false c3
              refine ⟨_, rfl, .inl ⟨rfl, _, sqI hf1⟩, _, rfl, _, _, _, rfl, rfl, hf1, ?_, ?_⟩
              · have : (ls (p :: r3) ++ [V.int a]).length = r3.length + 2 := by simp
                rw [this]
                simp at hl3
                exact Nat.lt_of_le_of_lt (show r3.length + 2 ≤ 1002 by omega) (by decide)
              · refine fin (w' :: a :: p :: r3) 0 mid _ ?_ ex1.upd ?_ (by simp at hl3 ⊢; omega) (fun q => absurd rfl q)
                · rw [add_zero, add_top hw c2 c4]
                · rw [upd_same, ls_cons w', ls_cons a]
    · -- the end
      have hw : w' = 0 := by
        simp at c
        exact c
      rw [hw, add_zero] at ea
      rw [ea] at hf'
      exact k H' ex hf'
theorem ok_form_in (T : Txt K mg) : FnOk P w K mg base CX0 2 T.a_form_in T.d_form_in ["turns"] (sp_form_in K) := by
  refine T.f_form_in.ok sc_form_in (fun vs H Q E h => ?_) (fun cdv A outer s H vs Q E hr h => ?_)
  · obtain ⟨a, ts, rfl, _⟩ := h
    rfl
  · obtain ⟨a, ts, rfl, hs, hl, k⟩ := h
    refine ⟨_, (pss_cons (ps_set (i := 1) sc_form_in.nd rfl (by first | exact Or.inl rfl | exact Or.inr rfl) (pe_lstG pa_nil)) (pss_cons (ps_for PassesOwn.never rfl (pi_list (pv 0)) (pg_name (i := 2) sc_form_in.nd rfl (by first | exact Or.inl rfl | exact Or.inr rfl)) (pss_one (ps_expr (pe_call (ok_add_turn T) (hr.mono (by decide)) (by rfl) T.g_add_turn T.f_add_turn.kp (b_add_turn T) .nil pass0 (pa_cons (pv 1) (pa_cons (pv 2) pa_nil)))))) (pss_one (ps_ret (pv 1))))), ?_⟩
    -- found = []
    refine ⟨Nat.zero_le _, fun p1 H1 n1 e1 h1 => ?_⟩
    have ha1 : SqL K H1 a (ts.map V.int) := Evl.ex_l e1 hs
    -- what is known of turns stays: H itself
    refine ⟨_, rfl, a, rfl, ⟨_, ha1⟩, for_list (K := K) (a := a) (xs := ts.map V.int) (fun i σ H' => ∃ v, σ = [some (.ref a), some (.ref p1), v] ∧ Ex H H' ∧ H' p1 = some (.lst (ls (stk (ts.take i)))))
      ⟨_, rfl, e1, h1⟩ (fun i σ H' _ ⟨_, _, e, _⟩ => Evl.ex_l e hs) ?_ ?_⟩
    · rintro i x σ H' hi ⟨v, rfl, e, hp⟩
      obtain ⟨t, ht, rfl⟩ := mapI_get hi
      have hi' : i < ts.length := (List.getElem?_eq_some_iff.mp ht).1
      refine ⟨_, rfl, _, rfl, p1, stk (ts.take i), t, rfl, hp, ?_, fun H2 e2 h2 => ⟨_, rfl, fun b o hb => e2 b o (ne_of_none hb n1) (e b o hb), ?_⟩⟩
      · have := fold_len (ts.take i) []
        have h3 : (ts.take i).length ≤ ts.length := List.length_take_le' _ _
        unfold stk
        simp at this
        omega
      · rw [take_next ht, stk_app]
        exact h2
    · rintro σ H' ⟨v, rfl, e, hp⟩
      refine ⟨_, rfl, ?_⟩
      refine k p1 H' n1 e ?_
      rw [List.length_map, List.take_of_length_le (Nat.le_refl _)] at hp
      exact hp
theorem ok_short_form (T : Txt K mg) : FnOk P w K mg base CX0 3 T.a_short_form T.d_short_form ["turns"] (sp_short_form K) := by
  refine T.f_short_form.ok sc_short_form (fun vs H Q E h => ?_) (fun cdv A outer s H vs Q E hr h => ?_)
  · obtain ⟨a, ts, rfl, _⟩ := h
    rfl
  · obtain ⟨a, ts, rfl, hs, hl, k⟩ := h
    refine ⟨_, (pss_one (ps_ret (pe_call (ok_form_in T) (hr.mono (by decide)) (by rfl) T.g_form_in T.f_form_in.kp (b_form_in T) .nil pass0 (pa_cons (pv 0) pa_nil)))), ?_⟩
    exact ⟨_, rfl, a, ts, rfl, hs, hl, k⟩
theorem ok_is_short (T : Txt K mg) : FnOk P w K mg base CX0 3 T.a_is_short T.d_is_short ["turns"] (sp_is_short K) := by
  refine T.f_is_short.ok sc_is_short (fun vs H Q E h => ?_) (fun cdv A outer s H vs Q E hr h => ?_)
  · obtain ⟨a, ts, rfl, _⟩ := h
    rfl
  · obtain ⟨a, ts, rfl, hs, hl, k⟩ := h
    refine ⟨_, (pss_one (ps_ret (pe_cmpR (op_eqD hr.units) (pe_call (ok_form_in T) (hr.mono (by decide)) (by rfl) T.g_form_in T.f_form_in.kp (b_form_in T) .nil pass0 (pa_cons (pv 0) pa_nil)) (pv 0) (nomark _)))), ?_⟩
    refine ⟨_, rfl, a, ts, rfl, hs, hl, fun p H1 n1 e1 h1 => ?_⟩
    exact ⟨_, rfl, eqI_ (sqI h1) (Evl.ex_l e1 hs) (k H1 e1)⟩
theorem ok_turns_alike (T : Txt K mg) : FnOk P w K mg base CX0 3 T.a_turns_alike T.d_turns_alike ["one", "other"] (sp_turns_alike K) := by
  refine T.f_turns_alike.ok sc_turns_alike (fun vs H Q E h => ?_) (fun cdv A outer s H vs Q E hr h => ?_)
  · obtain ⟨a, b, ts, us, rfl, _⟩ := h
    rfl
  · obtain ⟨a, b, ts, us, rfl, hs, hu, hl, hm, k⟩ := h
    refine ⟨_, (pss_one (ps_ret (pe_cmpR (op_eqD hr.units) (pe_call (ok_form_in T) (hr.mono (by decide)) (by rfl) T.g_form_in T.f_form_in.kp (b_form_in T) .nil pass0 (pa_cons (pv 0) pa_nil)) (pe_call (ok_form_in T) (hr.mono (by decide)) (by rfl) T.g_form_in T.f_form_in.kp (b_form_in T) .nil pass0 (pa_cons (pv 1) pa_nil)) (nomark _)))), ?_⟩
    refine ⟨_, rfl, a, ts, rfl, hs, hl, fun p H1 n1 e1 h1 => ?_⟩
    refine ⟨_, rfl, b, us, rfl, Evl.ex_l e1 hu, hm, fun q H2 n2 e2 h2 => ?_⟩
    exact eqI_ (sqI (e2 _ _ h1)) (sqI h2) (k H2 (e1.trans e2))
end
end K37
set_option Elab.async false
set_option linter.all false
set_option maxRecDepth 100000
set_option maxHeartbeats 4000000
namespace K37
open PySem L2 My
def sp__law_led (K : PySem.W.Frag) : Sp := fun vs H Q _ => ∃ (S x : Int) (a : Addr) (ts : List Int), vs = [.int S, .ref a, .int x] ∧ SqL K H a (ts.map V.int) ∧ Q (.int (led S ts x)) H
def sp__law_greatest (K : PySem.W.Frag) : Sp := fun vs H Q _ => ∃ (a : Addr) (ts : List Int), vs = [.ref a] ∧ SqL K H a (ts.map V.int) ∧ ts.length ≤ 1000 ∧
  ∀ (m : Int) (H' : Hp), Ex H H' → m ∈ 0 :: ts.map ab → (∀ y ∈ 0 :: ts.map ab, y ≤ m) → Q (.int m) H'
def sp__law_same (K : PySem.W.Frag) : Sp := fun vs H Q _ => ∃ (a b : Addr) (ts us : List Int) (m : Int), vs = [.ref a, .ref b, .int m] ∧ SqL K H a (ts.map V.int) ∧ SqL K H b (us.map V.int) ∧ 0 ≤ m ∧ m ≤ 1000 ∧
  ∀ v : Bool, (v = true ↔ ∀ S x : Int, 0 ≤ x → x ≤ S → S ≤ m → led S ts x = led S us x) → Q (.bl v) H
def sp__law_is_form (K : PySem.W.Frag) : Sp := fun vs H Q _ => ∃ (a : Addr) (f : List Int), vs = [.ref a] ∧ H a = some (.lst (f.map V.int)) ∧ Form f ∧ Evl.RetV (.bl true) H Q
/-- what a form is, spot by spot -/
theorem dn_ix : ∀ (r : List Int) (a : Int), Dn a r → ∀ (i : Nat) (x y : Int), (a :: r)[i]? = some x → r[i]? = some y → opp x y ∧ ab y < ab x
  | [], _, _, i, _, _, _, h => by simp at h
  | b :: r, a, h, 0, x, y, h1, h2 => by
    have e1 : a = x := Option.some.inj h1
    have e2 : b = y := Option.some.inj h2
    subst e1
    subst e2
    exact ⟨h.1, h.2.1⟩
  | b :: r, a, h, i + 1, x, y, h1, h2 => dn_ix r b h.2.2 i x y h1 h2
theorem form_ix {f : List Int} (h : Form f) : ∀ (i : Nat) (y : Int), f[i]? = some y → y ≠ 0 ∧ ∀ (j : Nat) (x : Int), i = j + 1 → f[j]? = some x → opp x y ∧ (0 < j → ab y < ab x) := by
  match f, h with
  | [], _ => intro i y q; simp at q
  | [a], h =>
    intro i y q
    cases i with
    | zero =>
      have e : a = y := Option.some.inj q
      subst e
      exact ⟨h, fun j x e _ => by omega⟩
    | succ i => simp at q
  | a :: b :: r, ⟨ho, hd⟩ =>
    intro i y q
    cases i with
    | zero =>
      have e : a = y := Option.some.inj q
      subst e
      exact ⟨by rcases ho with z | z <;> omega, fun j x e _ => by omega⟩
    | succ i =>
      cases i with
      | zero =>
        have e : b = y := Option.some.inj q
        subst e
        refine ⟨by rcases ho with z | z <;> omega, fun j x e1 e2 => ?_⟩
        have hj : j = 0 := by omega
        subst hj
        have e : a = x := Option.some.inj e2
        subst e
        exact ⟨ho, fun z => by omega⟩
      | succ i =>
        have q' : r[i]? = some y := q
        have hi : i < r.length := (List.getElem?_eq_some_iff.mp q').1
        have hx : ∃ x, (b :: r)[i]? = some x := ⟨_, List.getElem?_eq_getElem (by simp; omega)⟩
        obtain ⟨x, hx⟩ := hx
        have z := dn_ix r b hd i x y hx q'
        refine ⟨by rcases z.1 with w | w <;> omega, fun j x' e1 e2 => ?_⟩
        have hj : j = i + 1 := by omega
        subst hj
        have e3 : (b :: r)[i]? = some x' := e2
        rw [hx] at e3
        cases e3
        exact ⟨z.1, fun _ => z.2⟩
section
variable {P : Program} {w : World} {K : PySem.W.Frag} {mg : Str → Option Value} {base : Heap}
theorem ok__law_led (T : Txt K mg) : FnOk P w K mg base CX0 1 T.a__law_led T.d__law_led ["_law_size", "_law_turns_here", "_law_scroll"] (sp__law_led K) := by
  refine T.f__law_led.ok sc__law_led (fun vs H Q E h => ?_) (fun cdv A outer s H vs Q E hr h => ?_)
  · obtain ⟨S, x, a, ts, rfl, _⟩ := h
    rfl
  · obtain ⟨S, x, a, ts, rfl, hs, k⟩ := h
    refine ⟨_, (pss_cons (ps_for PassesOwn.never rfl (pi_list (pv 1)) (pg_name (i := 3) sc__law_led.nd rfl (by first | exact Or.inl rfl | exact Or.inr rfl)) (pss_one (ps_set (i := 2) sc__law_led.nd rfl (by first | exact Or.inl rfl | exact Or.inr rfl) (pe_callB (call_max2 rfl) (by rfl) T.z_max (by decide +kernel) (pa_cons pe_int (pa_cons (pe_callB (call_min2 rfl) (by rfl) T.z_min (by decide +kernel) (pa_cons (pv 0) (pa_cons (pe_op op_add (pv 2) (pv 3)) pa_nil))) pa_nil)))))) (pss_one (ps_ret (pv 2)))), ?_⟩
    refine ⟨_, rfl, a, rfl, ⟨_, hs⟩, for_list (K := K) (a := a) (xs := ts.map V.int) (fun i σ H' => ∃ v, σ = [some (.int S), some (.ref a), some (.int (led S (ts.take i) x)), v] ∧ H' = H)
      ⟨_, rfl, rfl⟩ (fun i σ H' _ ⟨_, _, e⟩ => by rw [e]; exact hs) ?_ ?_⟩
    · rintro i y σ H' hi ⟨v, rfl, rfl⟩
      obtain ⟨t, ht, rfl⟩ := mapI_get hi
      refine ⟨_, rfl, _, rfl, _, rfl, _, _, rfl, rfl, _, _, rfl, _, _, rfl, ?_⟩
      refine ⟨some (.int t), ?_, rfl⟩
      rw [take_next ht, led_app]
      rfl
    · rintro σ H' ⟨v, rfl, rfl⟩
      refine ⟨_, rfl, ?_⟩
      rw [List.length_map, List.take_of_length_le (Nat.le_refl _)]
      exact k
theorem ok__law_greatest (T : Txt K mg) : FnOk P w K mg base CX0 1 T.a__law_greatest T.d__law_greatest ["_law_turns_here"] (sp__law_greatest K) := by
  refine T.f__law_greatest.ok sc__law_greatest (fun vs H Q E h => ?_) (fun cdv A outer s H vs Q E hr h => ?_)
  · obtain ⟨a, ts, rfl, _⟩ := h
    rfl
  · obtain ⟨a, ts, rfl, hs, hl, k⟩ := h
    refine ⟨_, (pss_one (ps_ret (pe_callB (cr_max rfl) (by rfl) T.z_max (by decide +kernel) (pa_cons (pe_op op_catG (pe_lstG (pa_cons pe_int pa_nil)) (pe_lc (own := [("_law_turn", 1)]) (g := gName 1) (by rfl) sc__law_greatest.nd (pi_list (pv 0)) (blkOk_by (own := [("_law_turn", 1)]) (N := ["_law_turns_here", "_law_turn"]) (sc := defScope s__law_greatest) (by decide +kernel)) (fun _ _ _ _ _ => (pg_name (i := 1) sc__law_greatest.nd rfl (by first | exact Or.inl rfl | exact Or.inr rfl))) (fun _ _ _ _ _ => pts_nil) (fun _ _ _ _ _ => (pe_callB call_abs (by rfl) T.z_abs (by decide +kernel) (pa_cons (pv 1) pa_nil))))) pa_nil)))), ?_⟩
    refine ⟨(by show 1 ≤ sizeLine; decide), fun p1 H1 n1 e1 h1 => ?_⟩
    refine ⟨_, rfl, a, rfl, ⟨_, Evl.ex_l e1 hs⟩, fun D hD => lc_mapL (xs := ts.map V.int) (ys := (ts.map ab).map V.int) (Evl.ex_l e1 hs) hD (by simp) ?_ (fun x => rfl) ?_ ?_⟩
    · rw [List.length_map]
      exact Nat.le_trans hl (by decide)
    · intro i x y H' e' hx hy R q
      obtain ⟨t, ht, rfl⟩ := mapI_get hx
      rw [List.map_map, List.getElem?_map, ht] at hy
      cases hy
      exact ⟨_, rfl, _, rfl, q H' (Evl.Ex.refl _)⟩
    · intro H2 e2 h2
      refine ⟨_, _, _, _, rfl, rfl, e2 _ _ h1, h2, ?_, fun p3 H3 n3 e3 h3 => ?_⟩
      · simp
        exact Nat.le_trans (show 1 + ts.length ≤ 1001 by omega) (by decide)
      · refine ⟨p3, 0 :: ts.map ab, rfl, sqI h3, by simp, fun m hm hle => ?_⟩
        exact k m H3 (e1.trans (e2.trans e3)) hm hle
theorem ok__law_same (T : Txt K mg) : FnOk P w K mg base CX0 2 T.a__law_same T.d__law_same ["_law_one", "_law_other", "_law_most"] (sp__law_same K) := by
  refine T.f__law_same.ok sc__law_same (fun vs H Q E h => ?_) (fun cdv A outer s H vs Q E hr h => ?_)
  · obtain ⟨a, b, ts, us, m, rfl, _⟩ := h
    rfl
  · obtain ⟨a, b, ts, us, m, rfl, ha, hb, m0, m1, k⟩ := h
    refine ⟨_, (pss_cons (ps_for PassesOwn.never rfl (pi_range1 (by rfl) T.z_range (pa_cons (pe_op op_add (pv 2) pe_int) pa_nil)) (pg_name (i := 3) sc__law_same.nd rfl (by first | exact Or.inl rfl | exact Or.inr rfl)) (pss_one (ps_for PassesOwn.never rfl (pi_range1 (by rfl) T.z_range (pa_cons (pe_op op_add (pv 3) pe_int) pa_nil)) (pg_name (i := 4) sc__law_same.nd rfl (by first | exact Or.inl rfl | exact Or.inr rfl)) (pss_one (ps_if (pt_cmpR op_ne (pe_call (ok__law_led T) (hr.mono (by decide)) (by rfl) T.g__law_led T.f__law_led.kp (b__law_led T) .nil pass0 (pa_cons (pv 3) (pa_cons (pv 0) (pa_cons (pv 4) pa_nil)))) (pe_call (ok__law_led T) (hr.mono (by decide)) (by rfl) T.g__law_led T.f__law_led.kp (b__law_led T) .nil pass0 (pa_cons (pv 3) (pa_cons (pv 1) (pa_cons (pv 4) pa_nil)))) (nomark _)) (pss_one (ps_ret pe_bl)) pss_nil))))) (pss_one (ps_ret pe_bl))), ?_⟩
    refine ⟨_, rfl, _, _, rfl, rfl, _, rfl, (by omega), (by omega), for_range (lo := 0) (n := (m + 1).toNat) (fun i σ H' => ∃ v u, σ = [some (.ref a), some (.ref b), some (.int m), v, u] ∧ H' = H ∧ ∀ S x : Int, 0 ≤ x → x ≤ S → S < (i : Int) → led S ts x = led S us x)
      ⟨_, _, rfl, rfl, fun S x h0 h1 h2 => by omega⟩ ?_ ?_⟩
    · rintro i σ H' hi ⟨v, u, rfl, rfl, al⟩
      refine ⟨_, rfl, _, _, rfl, rfl, _, rfl, (by omega), (by omega), for_range (lo := 0) (n := ((0 : Int) + (i : Int) + 1).toNat) (fun j σ H2 => ∃ u, σ = [some (.ref a), some (.ref b), some (.int m), some (.int (0 + (i : Int))), u] ∧ H2 = H' ∧ ∀ x : Int, 0 ≤ x → x < (j : Int) → led i ts x = led i us x)
        ⟨_, rfl, rfl, fun x h0 h1 => by omega⟩ ?_ ?_⟩
      · rintro j σ H2 hj ⟨u, rfl, rfl, al2⟩
        have ei : (0 : Int) + (i : Int) = i := Int.zero_add _
        have ej : (0 : Int) + (j : Int) = j := Int.zero_add _
        refine ⟨_, rfl, _, rfl, _, rfl, _, _, a, ts, rfl, ha, ?_⟩
        refine ⟨_, rfl, _, rfl, _, rfl, _, _, b, us, rfl, hb, ?_⟩
        refine ⟨rfl, _, rfl, ?_⟩
        rw [ei, ej]
        refine ifB (fun c => ?_) (fun c => ?_)
        · refine k false ⟨fun q => (by cases q), fun q => ?_⟩
          have := q i j (by omega) (by omega) (by omega)
          rw [this] at c
          simp at c
        · have c' : led i ts j = led i us j := by simpa using c
          refine ⟨_, rfl, rfl, fun x h0 h1 => ?_⟩
          by_cases e : x = j
          · rw [e]
            exact c'
          · exact al2 x h0 (by omega)
      · rintro σ H2 ⟨u, rfl, rfl, al2⟩
        refine ⟨_, _, rfl, rfl, fun S x h0 h1 h2 => ?_⟩
        by_cases e : S = i
        · rw [e]
          exact al2 x h0 (by omega)
        · exact al S x h0 h1 (by omega)
    · rintro σ H' ⟨v, u, rfl, rfl, al⟩
      refine k true ⟨fun _ S x h0 h1 h2 => al S x h0 h1 (by omega), fun _ => rfl⟩
theorem ok__law_is_form (T : Txt K mg) : FnOk P w K mg base CX0 1 T.a__law_is_form T.d__law_is_form ["_law_form"] (sp__law_is_form K) := by
  refine T.f__law_is_form.ok sc__law_is_form (fun vs H Q E h => ?_) (fun cdv A outer s H vs Q E hr h => ?_)
  · obtain ⟨a, f, rfl, _⟩ := h
    rfl
  · obtain ⟨a, f, rfl, ha, hf, k⟩ := h
    refine ⟨_, (pss_cons (ps_for PassesOwn.never rfl (pi_enum (by rfl) T.z_enumerate (pa_cons (pv 0) pa_nil)) (pg_tup rfl (pgs_cons (pg_name (i := 1) sc__law_is_form.nd rfl (by first | exact Or.inl rfl | exact Or.inr rfl)) (pgs_cons (pg_name (i := 2) sc__law_is_form.nd rfl (by first | exact Or.inl rfl | exact Or.inr rfl)) pgs_nil))) (pss_cons (ps_if (pt_cut (PW.pt (pw_or (pt_cmpR op_eq (pv 2) pe_int (nomark _)) (pw_or1 (PW.pt (pw_and (pt_cmpR op_gt (pv 1) pe_int (nomark _)) (pw_and1 (pt_cmpR op_eq (pe_cmpR op_gt (pv 2) pe_int (nomark _)) (pe_cmpR op_gt (pe_ix ix_list (pv 0) (pe_op op_sub (pv 1) pe_int) (fun _ _ => rfl)) pe_int (nomark _)) (nomark _))))))))) (pss_one (ps_ret pe_bl)) pss_nil) (pss_one (ps_if (pt_cut (PW.pt (pw_and (pt_cmpR op_gt (pv 1) pe_int (nomark _)) (pw_and1 (pt_cmpR op_ge (pe_callB call_abs (by rfl) T.z_abs (by decide +kernel) (pa_cons (pv 2) pa_nil)) (pe_callB call_abs (by rfl) T.z_abs (by decide +kernel) (pa_cons (pe_ix ix_list (pv 0) (pe_op op_sub (pv 1) pe_int) (fun _ _ => rfl)) pa_nil)) (nomark _)))))) (pss_one (ps_ret pe_bl)) pss_nil)))) (pss_one (ps_ret pe_bl))), ?_⟩
    refine ⟨_, rfl, a, _, rfl, sqI ha, for_it (walk_enum (K := K) (a := a) (xs := f.map V.int)) (fun i σ H' => ∃ u v, σ = [some (.ref a), u, v] ∧ Ex H H') ⟨_, _, rfl, Evl.Ex.refl _⟩ (fun i σ H' _ ⟨_, _, _, e⟩ => sqI (e _ _ ha)) ?_ ?_⟩
    · rintro i x σ H1 H2 hi ⟨u, v, rfl, e⟩ ⟨p, y, z, rfl, np, rfl, hy, hz⟩
      cases hy
      obtain ⟨t, ht, rfl⟩ := mapI_get hz
      have e2 : Ex H (upd H1 p (.tup [.int (i : Int), .int t])) := e.trans (Evl.Ex.new np)
      have hp : upd H1 p (.tup [.int (i : Int), .int t]) p = some (.tup [.int (i : Int), .int t]) := upd_same
      generalize upd H1 p (.tup [.int (i : Int), .int t]) = H3 at e2 hp ⊢
      have ha3 := e2 _ _ ha
      obtain ⟨t0, hj⟩ := form_ix hf i t ht
      -- the turn ahead
      have prev : 0 < (i : Int) → ∃ x, f[i - 1]? = some x ∧ atI (f.map V.int) ((i : Int) - 1) = some (V.int x) ∧ opp x t ∧ (1 < i → ab t < ab x) := fun h0 => by
        have hi2 : i - 1 < f.length := by
          have := (List.getElem?_eq_some_iff.mp ht).1
          omega
        obtain ⟨x, hx⟩ : ∃ x, f[i - 1]? = some x := ⟨_, List.getElem?_eq_getElem hi2⟩
        have z := hj (i - 1) x (by omega) hx
        refine ⟨x, hx, at_of (j := i - 1) (by omega) ?_, z.1, fun w => z.2 (by omega)⟩
        rw [List.getElem?_map, hx]
        rfl
      refine ⟨_, _, rfl, sqT hp, rfl, _, _, rfl, _, _, rfl, rfl, ?_⟩
      refine ⟨fun b H' => b = false ∧ H' = H3, ?_, ?_⟩
      · refine ⟨_, rfl, rfl, _, rfl, ?_⟩
        refine ifF (by simp [t0]) ?_
        refine ⟨_, rfl, _, _, rfl, rfl, _, rfl, ?_⟩
        refine ifB (fun c => ?_) (fun c => ⟨rfl, rfl⟩)
        obtain ⟨x, _, hx, ho, _⟩ := prev (of_decide_eq_true c)
        refine ⟨_, rfl, _, _, rfl, rfl, _, rfl, _, rfl, _, _, rfl, rfl, _, _, _, _, rfl, rfl, sqI ha3, hx, _, _, rfl, rfl, rfl, _, rfl, ?_, rfl⟩
        refine decide_eq_false fun q => ?_
        have q' : decide (0 < t) = decide (0 < x) := V.bl.inj q
        rcases ho with ⟨h1, h2⟩ | ⟨h1, h2⟩
        · rw [decide_eq_true h1, decide_eq_false (by omega)] at q'
          cases q'
        · rw [decide_eq_true h2, decide_eq_false (by omega)] at q'
          cases q'
      · rintro b H' ⟨rfl, rfl⟩
        refine iteF ?_
        refine ⟨fun b H2 => b = false ∧ H2 = H', ?_, ?_⟩
        · refine ⟨_, rfl, _, _, rfl, rfl, _, rfl, ?_⟩
          refine ifB (fun c => ?_) (fun c => ⟨rfl, rfl⟩)
          have c' : (1 : Int) < i := of_decide_eq_true c
          obtain ⟨x, _, hx, _, hlt⟩ := prev (by omega)
          have hlt' := hlt (by omega)
          refine ⟨_, rfl, _, rfl, _, rfl, _, rfl, _, _, rfl, rfl, _, _, _, _, rfl, rfl, sqI ha3, hx, _, rfl, _, _, rfl, rfl, _, rfl, ?_, rfl⟩
          refine decide_eq_false fun q => ?_
          have q' : ab x ≤ ab t := q
          omega
        · rintro b H2 ⟨rfl, rfl⟩
          refine iteF ?_
          exact ⟨_, _, rfl, e2⟩
    · rintro σ H' ⟨u, v, rfl, e⟩
      exact k H' e
end
end K37
set_option Elab.async false
set_option linter.all false
set_option maxRecDepth 100000
set_option maxHeartbeats 4000000
namespace K37
open PySem L2 My
def sp__law_jug (K : PySem.W.Frag) : Sp := fun vs H Q _ => ∃ (a : Addr) (ns : List Int) (k : Int), vs = [.ref a, .int k] ∧ SqL K H a (ns.map V.int) ∧ 0 ≤ k ∧ k ≤ 100 ∧ ∀ (p : Addr) (H' : Hp), H p = none → Ex H H' → Jug H' p 0 → Q (.ref p) H'
def sp__law_turns : Sp := fun vs H Q _ => ∃ (j : Addr) (most size B : Int), vs = [.ref j, .int most, .int size] ∧ Jug H j B ∧ B ≤ 2 ^ 50 ∧ 0 ≤ most ∧ most ≤ 50 ∧ 0 ≤ size ∧ size ≤ 100 ∧
  ∀ (p : Addr) (H' : Hp) (ts : List Int), H p = none → Exj j H H' → Jug H' j (B + 100) → H' p = some (.lst (ts.map V.int)) → ts.length ≤ 60 → (∀ t ∈ ts, -100 ≤ t ∧ t ≤ 100) → Q (.ref p) H'
def sp__law_changed (K : PySem.W.Frag) : Sp := fun vs H Q _ => ∃ (j a : Addr) (ts : List Int) (B : Int), vs = [.ref j, .ref a] ∧ Jug H j B ∧ B ≤ 2 ^ 50 ∧ H a = some (.lst (ts.map V.int)) ∧ a ≠ j ∧ ts.length ≤ 100 ∧ (∀ t ∈ ts, -100 ≤ t ∧ t ≤ 100) ∧
  ∀ (p : Addr) (H' : Hp) (us : List Int), H p = none → Exj j H H' → Jug H' j (B + 100) → H' p = some (.lst (us.map V.int)) → us.length ≤ 100 → (∀ t ∈ us, -1000 ≤ t ∧ t ≤ 1000) → Q (.ref p) H'
theorem Jug.some {H : Hp} {j : Addr} {B : Int} : Jug H j B → ∃ o, H j = some o
  | ⟨_, _, _, h, _⟩ => ⟨_, h⟩
theorem Jug.ne {H : Hp} {j p : Addr} {B : Int} (h : Jug H j B) (n : H p = none) : p ≠ j := by
  obtain ⟨o, ho⟩ := h.some
  exact (ne_of_none ho n).symm
theorem _root_.My.Exj.back {j p : Addr} {H H' : Hp} (e : Exj j H H') (n : p ≠ j) (h : H' p = none) : H p = none := by
  cases q : H p with
  | none => rfl
  | some o =>
    rw [e p o n q] at h
    cases h
section
variable {P : Program} {w : World} {K : PySem.W.Frag} {mg : Str → Option Value} {base : Heap}
theorem ok__law_jug (T : Txt K mg) : FnOk P w K mg base CX0 1 T.a__law_jug T.d__law_jug ["_law_script", "_law_k"] (sp__law_jug K) := by
  refine T.f__law_jug.ok sc__law_jug (fun vs H Q E h => ?_) (fun cdv A outer s H vs Q E hr h => ?_)
  · obtain ⟨a, ns, k, rfl, _⟩ := h
    rfl
  · obtain ⟨a, ns, n, rfl, hs, n0, n1, k⟩ := h
    refine ⟨_, (pss_cons (ps_set (i := 2) sc__law_jug.nd rfl (by first | exact Or.inl rfl | exact Or.inr rfl) (pe_cut (pe_ifExp (pt_cmpR op_lt (pv 1) (pe_callB call_len_seq (by rfl) T.z_len PySem.boot_len (pa_cons (pv 0) pa_nil)) (nomark _)) (pe_ix ix_list (pv 0) (pv 1) (fun _ _ => rfl)) pe_int))) (pss_one (ps_ret (pe_lstG (pa_cons (pe_callB (call_max2 rfl) (by rfl) T.z_max (by decide +kernel) (pa_cons pe_int (pa_cons (pe_op op_sub (pv 2) (pe_op op_powW pe_int pe_int)) pa_nil))) (pa_cons (pe_op op_add (pe_op op_add (pe_op op_mulW (pe_op op_mod (pv 2) (pe_op op_add (pe_op op_powW pe_int pe_int) pe_int)) pe_int) (pe_op op_mulW pe_int (pv 1))) pe_int) (pa_cons pe_int pa_nil))))))), ?_⟩
    -- _law_cell = _law_script[_law_k] if _law_k < len(_law_script) else 0
    refine ⟨fun v H' => H' = H ∧ ∃ c : Int, v = .int c, ?_, ?_⟩
    · refine ⟨_, rfl, _, rfl, _, _, rfl, .inl hs, _, _, rfl, rfl, _, rfl, ?_⟩
      refine ifB (fun c => ?_) (fun c => ⟨rfl, _, rfl⟩)
      have c' : n < ((ns.map V.int).length : Int) := of_decide_eq_true c
      rw [List.length_map] at c'
      have hx : ns[n.toNat]? = some (ns[n.toNat]'(by omega)) := List.getElem?_eq_getElem (by omega)
      refine ⟨_, rfl, _, rfl, _, _, _, _, rfl, rfl, hs, at_of (j := n.toNat) (by omega) (by rw [List.getElem?_map, hx]; rfl), rfl, _, rfl⟩
    · rintro v H' ⟨rfl, c, rfl⟩
      have q0 := Int.emod_nonneg c (show ((10 : Int) ^ (39 : Int).toNat + 3) ≠ 0 by decide +kernel)
      have q1 := Int.emod_lt_of_pos c (show 0 < ((10 : Int) ^ (39 : Int).toNat + 3) by decide +kernel)
      have q2 : ((10 : Int) ^ (39 : Int).toNat + 3) < 2 ^ 140 := by decide +kernel
      have b0 : (c % ((10 : Int) ^ (39 : Int).toNat + 3)).natAbs < 2 ^ 140 := by
        have := Int.lt_trans q1 q2
        omega
      refine ⟨_, rfl, _, _, rfl, rfl, (show CPowW 10 18 by constructor <;> decide +kernel), _, _, rfl, rfl, _, _, rfl, _, rfl, _, _, rfl, rfl, (show CPowW 10 39 by constructor <;> decide +kernel), _, _, rfl, rfl, _, _, rfl, rfl, (show (0 : Int) < 10 ^ (39 : Int).toNat + 3 by decide +kernel), _, _, rfl, rfl, wide_mul (b := 10) b0 (by decide) (by decide) (by decide) (by decide), _, rfl, _, _, rfl, rfl, wide_mul (a := 20) (b := 10) (by decide) (by omega) (by decide) (by decide) (by decide), _, _, rfl, rfl, _, _, rfl, rfl, (by show 3 ≤ sizeLine; decide), fun p1 H1 n1 e1 h1 => ?_⟩
      refine k p1 H1 n1 e1 ⟨_, _, _, h1, ?_, ?_, Int.le_refl _, Int.le_refl _⟩
      · show 0 ≤ c % ((10 : Int) ^ (39 : Int).toNat + 3) * 211 + 50021 * n + 29
        have := Int.mul_nonneg q0 (show (0 : Int) ≤ 211 by decide)
        omega
      · show c % ((10 : Int) ^ (39 : Int).toNat + 3) * 211 + 50021 * n + 29 < 2 ^ 200
        generalize c % ((10 : Int) ^ (39 : Int).toNat + 3) = d at q0 b0 ⊢
        omega
theorem ok__law_turns (T : Txt K mg) : FnOk P w K mg base CX0 2 T.a__law_turns T.d__law_turns ["_law_jug_here", "_law_most", "_law_size"] sp__law_turns := by
  refine T.f__law_turns.ok sc__law_turns (fun vs H Q E h => ?_) (fun cdv A outer s H vs Q E hr h => ?_)
  · obtain ⟨j, most, size, B, rfl, _⟩ := h
    rfl
  · obtain ⟨j, most, size, B, rfl, hj, hB, m0, m1, s0, s1, k⟩ := h
    refine ⟨_, (pss_cons (ps_set (i := 3) sc__law_turns.nd rfl (by first | exact Or.inl rfl | exact Or.inr rfl) (pe_cut (pe_ifExp (pt_cmpR op_eq (pe_call (ok__law_pour T) (hr.mono (by decide)) (by rfl) T.g__law_pour T.f__law_pour.kp (b__law_pour T) .nil pass0 (pa_cons (pv 0) (pa_cons pe_int pa_nil))) pe_int (nomark _)) pe_int (pe_call (ok__law_pour T) (hr.mono (by decide)) (by rfl) T.g__law_pour T.f__law_pour.kp (b__law_pour T) .nil pass0 (pa_cons (pv 0) (pa_cons (pe_op op_add (pv 1) pe_int) pa_nil)))))) (pss_one (ps_ret (pe_lc (own := [("_law_turn", 4)]) (g := gName 4) (by rfl) sc__law_turns.nd (pi_range1 (by rfl) T.z_range (pa_cons (pv 3) pa_nil)) (blkOk_by (own := [("_law_turn", 4)]) (N := ["_law_jug_here", "_law_most", "_law_size", "_law_many", "_law_turn"]) (sc := defScope s__law_turns) (by decide +kernel)) (fun _ _ _ _ _ => (pg_name (i := 4) sc__law_turns.nd rfl (by first | exact Or.inl rfl | exact Or.inr rfl))) (fun _ _ _ _ _ => pts_nil) (fun _ _ _ _ _ => (pe_op op_sub (pe_call (ok__law_pour T) (hr.mono (by decide)) (by rfl) T.g__law_pour T.f__law_pour.kp (b__law_pour T) .nil pass0 (pa_cons (pv 0) (pa_cons (pe_op op_add (pe_op op_mulW pe_int (pv 2)) pe_int) pa_nil))) (pv 2))))))), ?_⟩
    refine ⟨fun v H' => ∃ n : Int, v = .int n ∧ 0 ≤ n ∧ n ≤ 60 ∧ Exj j H H' ∧ Jug H' j (B + 2), ?_, ?_⟩
    · refine ⟨_, rfl, j, _, B, rfl, hj, by omega, by decide, by decide, fun n H1 n0 n1 e1 j1 => ?_⟩
      refine ⟨rfl, _, rfl, ?_⟩
      refine ifB (fun c => ⟨60, rfl, by omega, by omega, e1, j1.mono (by omega)⟩) (fun c => ?_)
      refine ⟨_, rfl, _, rfl, _, _, rfl, rfl, j, _, _, rfl, j1, by omega, by omega, by omega, fun n H2 n0 n1 e2 j2 => ?_⟩
      exact ⟨n, rfl, n0, by omega, e1.trans e2, j2.mono (by omega)⟩
    · rintro v H1 ⟨n, rfl, n0, n1, e1, j1⟩
      refine ⟨_, rfl, _, rfl, (by omega), (by omega), fun D hD => lc_range (lo := 0) (n := n.toNat) (fun i H2 => ∃ ts : List Int, Exj j H1 H2 ∧ Jug H2 j (B + 2 + i) ∧ H2 D = some (.lst (ts.map V.int)) ∧ ts.length = i ∧ ∀ t ∈ ts, -100 ≤ t ∧ t ≤ 100) ?_ ?_ ?_⟩
      · exact ⟨[], Exj.of (Evl.Ex.new hD), (j1.ex (Evl.Ex.new hD)).mono (by omega), upd_same, rfl, fun t ht => by cases ht⟩
      · rintro i H2 hi ⟨ts, e2, j2, hd, hl, ht⟩
        have nDj : D ≠ j := j1.ne hD
        refine ⟨rfl, ?_⟩
        show _
        refine ⟨_, rfl, _, rfl, _, _, rfl, rfl, wide_mul (a := 10) (b := 20) (by decide) (by omega) (by decide) (by decide) (by decide), _, _, rfl, rfl, j, _, _, rfl, j2, by omega, by omega, by omega, fun m H3 k0 k1 e3 j3 => ?_⟩
        refine ⟨_, rfl, _, _, rfl, rfl, ts.map V.int, e3 _ _ nDj hd, ?_, ?_⟩
        · rw [List.length_map, hl]
          exact Nat.lt_of_lt_of_le (show i < 60 by omega) (by decide)
        · have exD : Exj j H1 (upd H3 D (.lst (ts.map V.int ++ [.int (m - size)]))) := fun b o nb hb => by
            rw [upd_ne (ne_of_none hb hD)]
            exact e3 _ _ nb (e2 _ _ nb hb)
          refine ⟨ts ++ [m - size], exD, ?_, ?_, by simp [hl], fun t h => ?_⟩
          · obtain ⟨x, y, z, h, r1, r2, r3, r4⟩ := j3
            exact ⟨x, y, z, by rw [upd_ne nDj.symm]; exact h, r1, r2, r3, by omega⟩
          · rw [upd_same, List.map_append]
            rfl
          · rcases List.mem_append.mp h with q | q
            · exact ht t q
            · have : t = m - size := by simpa using q
              omega
      · rintro H2 ⟨ts, e2, j2, hd, hl, ht⟩
        exact k D H2 ts (e1.back (j1.ne hD) hD) (e1.trans e2) (j2.mono (by omega)) hd (by omega) ht
theorem ok__law_changed (T : Txt K mg) : FnOk P w K mg base CX0 2 T.a__law_changed T.d__law_changed ["_law_jug_here", "_law_turns_here"] (sp__law_changed K) := by
  refine T.f__law_changed.ok sc__law_changed (fun vs H Q E h => ?_) (fun cdv A outer s H vs Q E hr h => ?_)
  · obtain ⟨j, a, ts, B, rfl, _⟩ := h
    rfl
  · obtain ⟨j, a, ts, B, rfl, hj, hB, ha, naj, hl, hb, k⟩ := h
    refine ⟨_, (pss_cons (ps_set (i := 2) sc__law_changed.nd rfl (by first | exact Or.inl rfl | exact Or.inr rfl) (pe_lstG pa_nil)) (pss_cons (ps_for PassesOwn.never rfl (pi_list (pe_slice sl_listG (pv 1) po_none (po_some pe_int))) (pg_name (i := 3) sc__law_changed.nd rfl (by first | exact Or.inl rfl | exact Or.inr rfl)) (pss_cons (ps_set (i := 4) sc__law_changed.nd rfl (by first | exact Or.inl rfl | exact Or.inr rfl) (pe_call (ok__law_pour T) (hr.mono (by decide)) (by rfl) T.g__law_pour T.f__law_pour.kp (b__law_pour T) .nil pass0 (pa_cons (pv 0) (pa_cons pe_int pa_nil)))) (pss_cons (ps_set (i := 5) sc__law_changed.nd rfl (by first | exact Or.inl rfl | exact Or.inr rfl) (pe_call (ok__law_pour T) (hr.mono (by decide)) (by rfl) T.g__law_pour T.f__law_pour.kp (b__law_pour T) .nil pass0 (pa_cons (pv 0) (pa_cons (pe_op op_add (pe_callB call_abs (by rfl) T.z_abs (by decide +kernel) (pa_cons (pv 3) pa_nil)) pe_int) pa_nil)))) (pss_one (ps_if (pt_cmpR op_eq (pv 4) pe_int (nomark _)) (pss_one (ps_set (i := 2) sc__law_changed.nd rfl (by first | exact Or.inl rfl | exact Or.inr rfl) (pe_cut (pe_ifExp (pt_cmpR op_gt (pv 3) pe_int (nomark _)) (pe_op op_catG (pv 2) (pe_lstG (pa_cons (pv 5) (pa_cons (pe_op op_sub (pv 3) (pv 5)) pa_nil)))) (pe_op op_catG (pv 2) (pe_lstG (pa_cons (pe_op op_sub pe_int (pv 5)) (pa_cons (pe_op op_add (pv 3) (pv 5)) pa_nil)))))))) (pss_one (ps_if (pt_cmpR op_eq (pv 4) pe_int (nomark _)) (pss_one (ps_set (i := 2) sc__law_changed.nd rfl (by first | exact Or.inl rfl | exact Or.inr rfl) (pe_op op_catG (pv 2) (pe_lstG (pa_cons (pv 3) (pa_cons pe_int pa_nil)))))) (pss_one (ps_if (pt_cmpR op_eq (pv 4) pe_int (nomark _)) (pss_one (ps_set (i := 2) sc__law_changed.nd rfl (by first | exact Or.inl rfl | exact Or.inr rfl) (pe_op op_catG (pv 2) (pe_cut (pe_ifExp (pt_cmpR op_gt (pv 3) pe_int (nomark _)) (pe_lstG (pa_cons (pv 3) (pa_cons (pe_op op_sub pe_int (pv 5)) (pa_cons (pv 5) pa_nil)))) (pe_lstG (pa_cons (pv 3) (pa_cons (pv 5) (pa_cons (pe_op op_sub pe_int (pv 5)) pa_nil))))))))) (pss_one (ps_expr (pe_bm PySem.F.plainAttrs_list PySem.F.slot_list_append PySem.F.type_list_append mt_append (pv 2) (pa_cons (pv 3) pa_nil))))))))))))) (pss_cons (ps_cut (ps_if (pt_cut (PW.pt (pw_and (pt_cmpR op_eq (pe_call (ok__law_pour T) (hr.mono (by decide)) (by rfl) T.g__law_pour T.f__law_pour.kp (b__law_pour T) .nil pass0 (pa_cons (pv 0) (pa_cons pe_int pa_nil))) pe_int (nomark _)) (pw_and1 (pt_cmpR (op_neD hr.units) (pv 2) (pe_lstG pa_nil) (nomark _)))))) (pss_one (ps_asg (pe_op op_sub (pe_call (ok__law_pour T) (hr.mono (by decide)) (by rfl) T.g__law_pour T.f__law_pour.kp (b__law_pour T) .nil pass0 (pa_cons (pv 0) (pa_cons pe_int pa_nil))) pe_int) (pg_sub (pv 2) (pe_call (ok__law_pour T) (hr.mono (by decide)) (by rfl) T.g__law_pour T.f__law_pour.kp (b__law_pour T) .nil pass0 (pa_cons (pv 0) (pa_cons (pe_callB call_len_seq (by rfl) T.z_len PySem.boot_len (pa_cons (pv 2) pa_nil)) pa_nil))) set_list))) pss_nil)) (pss_one (ps_ret (pv 2)))))), ?_⟩
    -- _law_found = []
    refine ⟨Nat.zero_le _, fun p1 H1 n1 e1 h1 => ?_⟩
    -- for _law_turn in _law_turns_here[:20]:
    refine ⟨_, rfl, _, rfl, _, _, rfl, sqI (e1 _ _ ha), fun p2 H2 n2 e2 h2 => ?_⟩
    have ec : cutV (ts.map V.int) none (some 20) = (ts.take 20).map V.int := by
      rw [List.map_take]
      exact cut_to _ 20
    rw [ec] at h2
    have hl20 : (ts.take 20).length ≤ 20 := List.length_take_le _ _
    have hmem : ∀ t ∈ ts.take 20, -100 ≤ t ∧ t ≤ 100 := fun t h => hb t (List.mem_of_mem_take h)
    have n12 : p1 ≠ p2 := ne_of_none h1 n2
    have n2j : p2 ≠ j := (hj.ex e1).ne n2
    have hp2 : H p2 = none := Evl.fresh_back e1 n2
    refine ⟨_, rfl, ⟨_, sqI h2⟩, for_list (K := K) (a := p2) (xs := (ts.take 20).map V.int) (fun i σ H' => ∃ (pf : Addr) (us : List Int) (v1 v2 v3 : Option V), σ = [some (.ref j), some (.ref a), some (.ref pf), v1, v2, v3] ∧ Exj j H H' ∧ Jug H' j (B + 2 * i) ∧
        H' pf = some (.lst (us.map V.int)) ∧ H pf = none ∧ pf ≠ j ∧ pf ≠ p2 ∧ H' p2 = some (.lst ((ts.take 20).map V.int)) ∧ us.length ≤ 3 * i ∧ ∀ t ∈ us, -1000 ≤ t ∧ t ≤ 1000)
      ⟨p1, [], _, _, _, rfl, Exj.of (e1.trans e2), ((hj.ex e1).ex e2).mono (by omega), e2 _ _ h1, n1, hj.ne n1, n12, h2, Nat.le_refl _, fun t h => by cases h⟩
      (fun i σ H' _ ⟨_, _, _, _, _, _, _, _, _, _, _, _, h, _⟩ => sqI h) ?_ ?_⟩
    · rintro i x σ H3 hi ⟨pf, us, v1, v2, v3, rfl, e3, j3, hf, nf, nfj, nf2, h2', hlu, hbu⟩
      obtain ⟨t, ht, rfl⟩ := mapI_get hi
      have ht2 := hmem t (List.mem_of_getElem? ht)
      have hi20 : i < 20 := by
        have := (List.getElem?_eq_some_iff.mp ht).1
        omega
      -- _law_way = _law_pour(_law_jug_here, 4)
      refine ⟨_, rfl, j, _, _, rfl, j3, by omega, by decide, by decide, fun way H4 w0 w1 e4 j4 => ?_⟩
      -- _law_part = _law_pour(_law_jug_here, abs(_law_turn) + 1)
      have cab := ab_cases t
      refine ⟨_, rfl, _, rfl, _, rfl, _, _, rfl, rfl, j, (ab t + 1), _, rfl, j4, by omega, by omega, by omega, fun part H5 p0 p1' e5 j5 => ?_⟩
      have e35 : Exj j H3 H5 := e4.trans e5
      have hf5 : H5 pf = some (.lst (us.map V.int)) := e35 _ _ nfj hf
      have h25 := e35 _ _ n2j h2'
      have e05 : Exj j H H5 := e3.trans e35
      have lus : (us.map V.int).length ≤ 60 := by
        rw [List.length_map]
        omega
      -- found + [..], any new list of at most three turns
      have fin : ∀ (ys : List Int) (pn : Addr) (H6 : Hp) (v1 v2 v3 : Option V), ys.length ≤ 3 → (∀ t ∈ ys, -1000 ≤ t ∧ t ≤ 1000) → H5 pn = none → Ex H5 H6 → H6 pn = some (.lst (us.map V.int ++ ys.map V.int)) →
          ∃ (pf : Addr) (us : List Int) (u1 u2 u3 : Option V), [some (V.ref j), some (V.ref a), some (V.ref pn), v1, v2, v3] = [some (.ref j), some (.ref a), some (.ref pf), u1, u2, u3] ∧ Exj j H H6 ∧ Jug H6 j (B + 2 * ((i + 1 : Nat) : Int)) ∧
            H6 pf = some (.lst (us.map V.int)) ∧ H pf = none ∧ pf ≠ j ∧ pf ≠ p2 ∧ H6 p2 = some (.lst ((ts.take 20).map V.int)) ∧ us.length ≤ 3 * (i + 1) ∧ ∀ t ∈ us, -1000 ≤ t ∧ t ≤ 1000 :=
        fun ys pn H6 v1 v2 v3 hy1 hy2 nn e6 h6 => ⟨pn, us ++ ys, v1, v2, v3, rfl, e05.trans (Exj.of e6), (j5.ex e6).mono (by omega), by rw [h6, List.map_append], e05.back (j5.ne nn) nn, j5.ne nn, (ne_of_none h25 nn).symm, e6 _ _ h25, by rw [List.length_append]; omega, fun t h => by
            rcases List.mem_append.mp h with q | q
            · exact hbu t q
            · exact hy2 t q⟩
      -- if _law_way == 0:
      refine ⟨_, rfl, rfl, _, rfl, ?_⟩
      refine ifB (fun _ => ?_) (fun _ => ?_)
      · refine ⟨fun v H6 => ∃ (ys : List Int) (pn : Addr), v = .ref pn ∧ ys.length ≤ 3 ∧ (∀ t ∈ ys, -1000 ≤ t ∧ t ≤ 1000) ∧ H5 pn = none ∧ Ex H5 H6 ∧ H6 pn = some (.lst (us.map V.int ++ ys.map V.int)), ?_, ?_⟩
        · refine ⟨_, rfl, _, _, rfl, rfl, _, rfl, ?_⟩
          refine ifB (fun _ => ?_) (fun _ => ?_)
          · refine ⟨_, rfl, _, rfl, _, rfl, _, rfl, _, _, rfl, rfl, (by show 2 ≤ sizeLine; decide), fun q3 H7 n3 e7 h7 => ?_⟩
            refine ⟨_, _, _, _, rfl, rfl, e7 _ _ hf5, h7, (Nat.le_trans (show _ ≤ 62 from Nat.add_le_add lus (Nat.le_refl 2)) (by decide)), fun q4 H8 n4 e8 h8 => ?_⟩
            exact ⟨[part, t - part], q4, rfl, by simp, fun x hx => by
              have : x = part ∨ x = t - part := by simpa using hx
              omega, Evl.fresh_back e7 n4, e7.trans e8, h8⟩
          · refine ⟨_, rfl, _, rfl, _, _, rfl, rfl, _, rfl, _, rfl, _, _, rfl, rfl, (by show 2 ≤ sizeLine; decide), fun q3 H7 n3 e7 h7 => ?_⟩
            refine ⟨_, _, _, _, rfl, rfl, e7 _ _ hf5, h7, (Nat.le_trans (show _ ≤ 62 from Nat.add_le_add lus (Nat.le_refl 2)) (by decide)), fun q4 H8 n4 e8 h8 => ?_⟩
            exact ⟨[0 - part, t + part], q4, rfl, by simp, fun x hx => by
              have : x = 0 - part ∨ x = t + part := by simpa using hx
              omega, Evl.fresh_back e7 n4, e7.trans e8, h8⟩
        · rintro v H6 ⟨ys, pn, rfl, y1, y2, nn, e6, h6⟩
          exact fin ys pn H6 _ _ _ y1 y2 nn e6 h6
      · refine ⟨_, rfl, rfl, _, rfl, ?_⟩
        refine ifB (fun _ => ?_) (fun _ => ?_)
        · refine ⟨_, rfl, _, rfl, (by show 2 ≤ sizeLine; decide), fun q3 H7 n3 e7 h7 => ?_⟩
          refine ⟨_, _, _, _, rfl, rfl, e7 _ _ hf5, h7, (Nat.le_trans (show _ ≤ 62 from Nat.add_le_add lus (Nat.le_refl 2)) (by decide)), fun q4 H8 n4 e8 h8 => ?_⟩
          exact fin [t, 0] q4 H8 _ _ _ (by simp) (fun x hx => by
            have : x = t ∨ x = 0 := by simpa using hx
            omega) (Evl.fresh_back e7 n4) (e7.trans e8) h8
        · refine ⟨_, rfl, rfl, _, rfl, ?_⟩
          refine ifB (fun _ => ?_) (fun _ => ?_)
          · refine ⟨_, rfl, ?_⟩
            refine ⟨fun v H6 => ∃ (ys : List Int) (pn : Addr), v = .ref pn ∧ ys.length = 3 ∧ (∀ t ∈ ys, -1000 ≤ t ∧ t ≤ 1000) ∧ Ex H5 H6 ∧ H6 pn = some (.lst (ys.map V.int)), ?_, ?_⟩
            · refine ⟨_, rfl, _, _, rfl, rfl, _, rfl, ?_⟩
              refine ifB (fun _ => ?_) (fun _ => ?_)
              · refine ⟨_, rfl, _, rfl, _, _, rfl, rfl, _, rfl, (by show 3 ≤ sizeLine; decide), fun q3 H7 n3 e7 h7 => ?_⟩
                exact ⟨[t, 0 - part, part], q3, rfl, rfl, fun x hx => by
                  have : x = t ∨ x = 0 - part ∨ x = part := by simpa using hx
                  omega, e7, h7⟩
              · refine ⟨_, rfl, _, rfl, _, rfl, _, _, rfl, rfl, (by show 3 ≤ sizeLine; decide), fun q3 H7 n3 e7 h7 => ?_⟩
                exact ⟨[t, part, 0 - part], q3, rfl, rfl, fun x hx => by
                  have : x = t ∨ x = part ∨ x = 0 - part := by simpa using hx
                  omega, e7, h7⟩
            · rintro v H6 ⟨ys, pn, rfl, y1, y2, e6, h6⟩
              refine ⟨_, _, _, _, rfl, rfl, e6 _ _ hf5, h6, ?_, fun q4 H8 n4 e8 h8 => ?_⟩
              · have e3 : (ys.map V.int).length = 3 := by rw [List.length_map, y1]
                rw [e3]
                exact Nat.le_trans (Nat.add_le_add lus (Nat.le_refl 3)) (by decide)
              · exact fin ys q4 H8 _ _ _ (by omega) y2 (Evl.fresh_back e6 n4) (e6.trans e8) h8
          · -- _law_found.append(_law_turn)
            refine ⟨_, rfl, .inl ⟨rfl, _, sqI hf5⟩, _, rfl, _, _, _, rfl, rfl, hf5, Nat.lt_of_le_of_lt lus (by decide), ?_⟩
            refine ⟨pf, us ++ [t], _, _, _, rfl, fun b o nb hb => ?_, ?_, ?_, nf, nfj, nf2, ?_, by rw [List.length_append]; simp; omega, fun x h => ?_⟩
            · rw [upd_ne (ne_of_none hb nf)]
              exact e05 _ _ nb hb
            · obtain ⟨x, y, z, h, r1, r2, r3, r4⟩ := j5
              exact ⟨x, y, z, by rw [upd_ne nfj.symm]; exact h, r1, r2, r3, by omega⟩
            · rw [upd_same, List.map_append]
              rfl
            · rw [upd_ne nf2.symm]
              exact h25
            · rcases List.mem_append.mp h with q | q
              · exact hbu x q
              · have : x = t := by simpa using q
                omega
    · rintro σ H3 ⟨pf, us, v1, v2, v3, rfl, e3, j3, hf, nf, nfj, nf2, h2', hlu, hbu⟩
      rw [List.length_map] at hlu j3
      have hlu' : us.length ≤ 60 := by omega
      -- if _law_pour(_law_jug_here, 3) == 0 and _law_found != []:
      refine ⟨fun σ H' => ∃ us' : List Int, σ = [some (.ref j), some (.ref a), some (.ref pf), v1, v2, v3] ∧ Exj j H H' ∧ Jug H' j (B + 100) ∧ H' pf = some (.lst (us'.map V.int)) ∧ us'.length ≤ 60 ∧ ∀ t ∈ us', -1000 ≤ t ∧ t ≤ 1000, ?_, ?_⟩
      · refine ⟨fun b H' => Exj j H3 H' ∧ Jug H' j (B + 2 * (20 : Nat) + 1) ∧ (b = true → us ≠ []), ?_, ?_⟩
        · refine ⟨_, rfl, j, _, _, rfl, j3, by omega, by decide, by decide, fun n H4 w0 w1 e4 j4 => ?_⟩
          refine ⟨rfl, _, rfl, ?_⟩
          refine ifB (fun _ => ?_) (fun _ => ⟨e4, j4.mono (by omega), fun q => by cases q⟩)
          refine ⟨_, rfl, Nat.zero_le _, fun q5 H5 n5 e5 h5 => ?_⟩
          refine neI_ (xs := us) (ys := []) (sqI (e5 _ _ (e4 _ _ nfj hf))) (sqI h5) ⟨_, rfl, e4.trans (Exj.of e5), (j4.ex e5).mono (by omega), fun q => by simpa using q⟩
        · rintro b H4 ⟨e4, j4, hne⟩
          have hf4 := e4 _ _ nfj hf
          refine ifB (fun c => ?_) (fun _ => ?_)
          · have hne' := hne c
            refine ⟨_, rfl, j, _, _, rfl, j4, by omega, by decide, by decide, fun n H5 w0 w1 e5 j5 => ?_⟩
            have hf5 := e5 _ _ nfj hf4
            have hpos : 0 < us.length := List.length_pos_iff.mpr hne'
            refine ⟨_, _, rfl, rfl, _, rfl, _, rfl, _, rfl, _, _, rfl, .inl (sqI hf5), j, _, _, rfl, j5, by omega, by rw [List.length_map]; omega, by rw [List.length_map]; omega, fun m H6 m0 m1 e6 j6 => ?_⟩
            have hf6 := e6 _ _ nfj hf5
            rw [List.length_map] at m1
            have hix : ixN (us.map V.int).length m = some m.toNat := by
              unfold ixN
              rw [if_pos m0, List.length_map, if_pos m1]
            refine ⟨_, _, _, _, rfl, rfl, hf6, hix, ?_⟩
            refine ⟨us.set m.toNat (n - 3), rfl, fun b o nb hb => ?_, ?_, ?_, by rw [List.length_set]; exact hlu', fun t h => ?_⟩
            · rw [upd_ne (ne_of_none hb nf)]
              exact e6 _ _ nb (e5 _ _ nb (e4 _ _ nb (e3 _ _ nb hb)))
            · obtain ⟨x, y, z, h, r1, r2, r3, r4⟩ := j6
              exact ⟨x, y, z, by rw [upd_ne nfj.symm]; exact h, r1, r2, r3, by omega⟩
            · rw [upd_same, List.map_set]
            · rcases List.mem_or_eq_of_mem_set h with q | q
              · exact hbu t q
              · omega
          · exact ⟨us, rfl, e3.trans e4, j4.mono (by omega), hf4, hlu', hbu⟩
      · rintro σ H4 ⟨us', rfl, e4, j4, hf4, hl4, hb4⟩
        refine ⟨_, rfl, ?_⟩
        exact k pf H4 us' nf e4 j4 hf4 (by omega) hb4
end
end K37
set_option Elab.async false
set_option linter.all false
set_option maxRecDepth 100000
set_option maxHeartbeats 4000000
namespace K37
open PySem L2 My
/-! ### how great the turns of a form are -/
def sa : List Int → Int
  | [] => 0
  | a :: r => ab a + sa r
theorem ab_nn (a : Int) : 0 ≤ ab a := by
  have := ab_cases a
  omega
theorem ab_add (a b : Int) : ab (a + b) ≤ ab a + ab b := by
  have := ab_cases a
  have := ab_cases b
  have := ab_cases (a + b)
  omega
theorem sa_nn : ∀ r : List Int, 0 ≤ sa r
  | [] => Int.le_refl _
  | a :: r => by
    have := sa_nn r
    have := ab_nn a
    show 0 ≤ ab a + sa r
    omega
theorem sa_mem : ∀ (r : List Int) (x : Int), x ∈ r → ab x ≤ sa r
  | a :: r, x, h => by
    show ab x ≤ ab a + sa r
    have h0 := sa_nn r
    have h1 := ab_nn a
    rcases List.mem_cons.mp h with e | h
    · rw [e]
      omega
    · have := sa_mem r x h
      omega
theorem add_sa (n : Nat) : ∀ (r : List Int) (w : Int), r.length ≤ n → sa (add r w) ≤ sa r + ab w := by
  have nil : ∀ w, sa (add [] w) ≤ sa [] + ab w := fun w => by
    unfold add
    have := ab_nn w
    split
    · show (0 : Int) ≤ 0 + ab w
      omega
    · show ab w + 0 ≤ 0 + ab w
      omega
  induction n with
  | zero =>
    intro r w hl
    cases r with
    | nil => exact nil w
    | cons a r => simp at hl
  | succ n ih =>
    intro r w hl
    cases r with
    | nil => exact nil w
    | cons a r =>
      have hl' : r.length ≤ n := by simpa using hl
      have hw := ab_nn w
      show sa (add (a :: r) w) ≤ ab a + sa r + ab w
      unfold add
      split
      · show ab a + sa r ≤ _
        omega
      · split
        · have := ih r (w + a) hl'
          have := ab_add w a
          omega
        · cases r with
          | nil =>
            show ab w + (ab a + 0) ≤ ab a + 0 + ab w
            omega
          | cons p r' =>
            dsimp only
            show _ ≤ ab a + (ab p + sa r') + ab w
            split
            · split
              · have := ih r' (w + a + p) (by simp at hl'; omega)
                have := ab_add (w + a) p
                have := ab_add w a
                omega
              · have h := ih ((p + a) :: r') w (by simpa using hl')
                have h2 : sa ((p + a) :: r') = ab (p + a) + sa r' := rfl
                have := ab_add p a
                omega
            · show ab w + (ab a + (ab p + sa r')) ≤ _
              omega
theorem fold_sa : ∀ (ts r : List Int), sa (ts.foldl add r) ≤ sa r + sa ts
  | [], r => by
    show sa r ≤ sa r + 0
    omega
  | t :: ts, r => by
    have h1 := fold_sa ts (add r t)
    have h2 := add_sa r.length r t (Nat.le_refl _)
    show sa (ts.foldl add (add r t)) ≤ sa r + (ab t + sa ts)
    omega
theorem sa_le {B : Int} : ∀ (ts : List Int), (∀ t ∈ ts, -B ≤ t ∧ t ≤ B) → sa ts ≤ ts.length * B
  | [], _ => by
    show (0 : Int) ≤ (0 : Nat) * B
    omega
  | t :: ts, h => by
    have h1 := sa_le ts fun x hx => h x (List.mem_cons_of_mem _ hx)
    have h2 := h t List.mem_cons_self
    have h3 := ab_cases t
    show ab t + sa ts ≤ ((ts.length + 1 : Nat) : Int) * B
    rw [Int.natCast_add, Int.add_mul]
    have h4 : ab t ≤ ((1 : Nat) : Int) * B := by
      show ab t ≤ 1 * B
      omega
    omega
theorem form_lt {ts : List Int} (hl : ts.length ≤ 100) (h : ∀ t ∈ ts, -1000 ≤ t ∧ t ≤ 1000) : ∀ x ∈ form ts, x.natAbs < 2 ^ 20 := fun x hx => by
  have h1 : x ∈ stk ts := List.mem_reverse.mp hx
  have h2 := sa_mem _ x h1
  have h3 := fold_sa ts []
  have h4 := sa_le ts h
  have h5 : sa ([] : List Int) = 0 := rfl
  have h6 := ab_cases x
  have h7 : stk ts = ts.foldl add [] := rfl
  rw [h7] at h2
  omega
theorem gr_of {f : List Int} {m : Int} (hm : m ∈ 0 :: (f.take 2).map ab) (hle : ∀ y ∈ 0 :: (f.take 2).map ab, y ≤ m) : m = gr f := by
  match f, hm, hle with
  | [], hm, hle =>
    have : m = 0 := by simpa using hm
    exact this
  | [a], hm, hle =>
    have h1 : m = 0 ∨ m = ab a := by simpa using hm
    have h2 : ab a ≤ m := hle _ (by simp)
    have h3 := ab_nn a
    show m = ab a
    omega
  | a :: b :: r, hm, hle =>
    have h1 : m = 0 ∨ m = ab a ∨ m = ab b := by simpa using hm
    have h2 : ab a ≤ m := hle _ (by simp)
    have h4 : ab b ≤ m := hle _ (by simp)
    have h3 := ab_nn a
    have h5 := ab_nn b
    show m = if ab a < ab b then ab b else ab a
    split <;> omega
/-- two lists do the same in all rooms up to the told one exactly if their forms are equal -/
theorem alike_iff {ts us : List Int} {m : Int} (hm : m = (if gr (form ts) < gr (form us) then gr (form ts) else gr (form us)) + 1) :
    (∀ S x : Int, 0 ≤ x → x ≤ S → S ≤ m → led S ts x = led S us x) ↔ form ts = form us := by
  constructor
  · intro h
    by_cases e : form ts = form us
    · exact e
    · exfalso
      obtain ⟨S, x, h0, h1, h2, h3⟩ := apart (form_form' ts) (form_form' us) e
      rw [form_led (by omega) h0 h1, form_led (by omega) h0 h1] at h3
      exact h3 (h S x h0 h1 (by omega))
  · intro e S x h0 h1 _
    rw [← form_led (by omega) h0 h1 ts, ← form_led (by omega) h0 h1 us, e]
theorem form_zero (ts : List Int) : form (0 :: ts) = form ts := by
  show (ts.foldl add (add [] 0)).reverse = (ts.foldl add []).reverse
  rw [add_zero]
def sp__law_form_right (K : PySem.W.Frag) : Sp := fun vs H Q _ => ∃ (a : Addr) (ts : List Int) (wd : Int), vs = [.ref a, .int wd] ∧ H a = some (.lst (ts.map V.int)) ∧ ts.length ≤ 100 ∧ (∀ t ∈ ts, -1000 ≤ t ∧ t ≤ 1000) ∧ 0 < wd ∧ wd < 2 ^ 100 ∧ Evl.RetV (.bl true) H Q
section
variable {P : Program} {w : World} {K : PySem.W.Frag} {mg : Str → Option Value} {base : Heap}
theorem ok__law_form_right (T : Txt K mg) : FnOk P w K mg base CX0 4 T.a__law_form_right T.d__law_form_right ["_law_turns_here", "_law_width"] (sp__law_form_right K) := by
  refine T.f__law_form_right.ok sc__law_form_right (fun vs H Q E h => ?_) (fun cdv A outer s H vs Q E hr h => ?_)
  · obtain ⟨a, ts, wd, rfl, _⟩ := h
    rfl
  · obtain ⟨a, ts, wd, rfl, ha, hl, hb, w0, w1, k⟩ := h
    refine ⟨_, (pss_cons (ps_set (i := 2) sc__law_form_right.nd rfl (by first | exact Or.inl rfl | exact Or.inr rfl) (pe_callTy call_listG (by rfl) T.z_list (by decide +kernel) (pa_cons (pv 0) pa_nil))) (pss_cons (ps_set (i := 3) sc__law_form_right.nd rfl (by first | exact Or.inl rfl | exact Or.inr rfl) (pe_call (ok_short_form T) (hr.mono (by decide)) (by rfl) T.g_short_form T.f_short_form.kp (b_short_form T) .nil pass0 (pa_cons (pv 0) pa_nil))) (pss_cons (ps_if (PW.pt (pw_or (pt_not (pt_val (pe_callB call_isi (by rfl) T.z_isinstance (by decide +kernel) (pa_cons (pv 3) (pa_cons (pe_bltn (v := .ty "list") (by rfl) T.z_list (by decide +kernel) rfl) pa_nil))))) (pw_or (pt_not (pt_val (pe_call (ok__law_is_form T) (hr.mono (by decide)) (by rfl) T.g__law_is_form T.f__law_is_form.kp (b__law_is_form T) .nil pass0 (pa_cons (pv 3) pa_nil)))) (pw_or1 (pt_cmpR (op_neD hr.units) (pv 0) (pv 2) (nomark _)))))) (pss_one (ps_ret pe_bl)) pss_nil) (pss_cons (ps_if (PW.pt (pw_or (pt_cmpR op_gt (pe_callB call_len_seq (by rfl) T.z_len PySem.boot_len (pa_cons (pv 3) pa_nil)) (pe_callB call_len_seq (by rfl) T.z_len PySem.boot_len (pa_cons (pv 0) pa_nil)) (nomark _)) (pw_or (pt_cmpR op_notBl (pe_call (ok_is_short T) (hr.mono (by decide)) (by rfl) T.g_is_short T.f_is_short.kp (b_is_short T) .nil pass0 (pa_cons (pv 3) pa_nil)) pe_bl (nomark _)) (pw_or1 (pt_cmpR (op_neD hr.units) (pe_callK0 (ok_short_form T) (hr.mono (by decide)) (by rfl) T.g_short_form T.f_short_form.kp (kb_short_form_0_turns T) pass0 (pk_cons (pv 3) pk_nil)) (pv 3) (nomark _)))))) (pss_one (ps_ret pe_bl)) pss_nil) (pss_cons (ps_if (PW.pt (pw_or (pt_cmpR op_ne (pe_callK0 (ok_is_short T) (hr.mono (by decide)) (by rfl) T.g_is_short T.f_is_short.kp (kb_is_short_0_turns T) pass0 (pk_cons (pv 0) pk_nil)) (pe_cmpR (op_eqD hr.units) (pv 0) (pv 3) (nomark _)) (nomark _)) (pw_or1 (pt_not (pt_val (pe_call (ok__law_same T) (hr.mono (by decide)) (by rfl) T.g__law_same T.f__law_same.kp (b__law_same T) .nil pass0 (pa_cons (pv 0) (pa_cons (pv 3) (pa_cons (pe_callB (call_min2 rfl) (by rfl) T.z_min (by decide +kernel) (pa_cons pe_int (pa_cons (pe_op op_add (pe_call (ok__law_greatest T) (hr.mono (by decide)) (by rfl) T.g__law_greatest T.f__law_greatest.kp (b__law_greatest T) .nil pass0 (pa_cons (pv 3) pa_nil)) pe_int) pa_nil))) pa_nil))))))))) (pss_one (ps_ret pe_bl)) pss_nil) (pss_one (ps_ret (pe_cmpR (op_eqD hr.units) (pe_call (ok_short_form T) (hr.mono (by decide)) (by rfl) T.g_short_form T.f_short_form.kp (b_short_form T) .nil pass0 (pa_cons (pe_lc (own := [("_law_turn", 4)]) (g := gName 4) (by rfl) sc__law_form_right.nd (pi_list (pv 0)) (blkOk_by (own := [("_law_turn", 4)]) (N := ["_law_turns_here", "_law_width", "_law_kept", "_law_form", "_law_turn"]) (sc := defScope s__law_form_right) (by decide +kernel)) (fun _ _ _ _ _ => (pg_name (i := 4) sc__law_form_right.nd rfl (by first | exact Or.inl rfl | exact Or.inr rfl))) (fun _ _ _ _ _ => pts_nil) (fun _ _ _ _ _ => (pe_op op_mulW (pv 1) (pv 4)))) pa_nil)) (pe_lc (own := [("_law_turn", 4)]) (g := gName 4) (by rfl) sc__law_form_right.nd (pi_list (pv 3)) (blkOk_by (own := [("_law_turn", 4)]) (N := ["_law_turns_here", "_law_width", "_law_kept", "_law_form", "_law_turn"]) (sc := defScope s__law_form_right) (by decide +kernel)) (fun _ _ _ _ _ => (pg_name (i := 4) sc__law_form_right.nd rfl (by first | exact Or.inl rfl | exact Or.inr rfl))) (fun _ _ _ _ _ => pts_nil) (fun _ _ _ _ _ => (pe_op op_mulW (pv 1) (pv 4)))) (nomark _))))))))), ?_⟩
    have hfl := form_len ts
    -- _law_kept = list(_law_turns_here)
    refine ⟨_, rfl, _, _, rfl, .inl (sqI ha), fun p1 H1 n1 e1 h1 => ?_⟩
    -- _law_form = short_form(_law_turns_here)
    refine ⟨_, rfl, a, ts, rfl, sqI (e1 _ _ ha), by omega, fun p2 H2 n2 e2 h2 => ?_⟩
    have e02 := e1.trans e2
    -- if not isinstance(_law_form, list) or ..
    refine ⟨_, rfl, _, _, _, _, _, rfl, .ty _, .base (.lst h2), kit_ty (r := true) (by decide +kernel), _, rfl, ifF rfl ?_⟩
    refine ⟨_, rfl, p2, form ts, rfl, h2, form_form' ts, fun H3 e3 => ?_⟩
    refine ⟨_, rfl, ifF rfl ?_⟩
    have e03 := e02.trans e3
    have ha3 := e03 _ _ ha
    have h13 := e3 _ _ (e2 _ _ h1)
    have h23 := e3 _ _ h2
    refine ⟨_, rfl, _, rfl, neI_ (xs := ts) (ys := ts) (sqI ha3) (sqI h13) ⟨_, rfl, ?_⟩⟩
    refine ifF (by simp) ?_
    -- if len(_law_form) > len(_law_turns_here) or ..
    refine ⟨_, rfl, _, _, rfl, .inl (sqI h23), _, rfl, _, _, rfl, .inl (sqI ha3), _, _, rfl, rfl, _, rfl, ?_⟩
    refine ifF (decide_eq_false (by rw [List.length_map, List.length_map]; omega)) ?_
    refine ⟨_, rfl, p2, form ts, rfl, sqI h23, by omega, fun H4 e4 => ?_⟩
    refine ⟨_, _, rfl, rfl, _, rfl, ?_⟩
    refine ifF (by rw [decide_eq_true (form_form ts)]; rfl) ?_
    refine ⟨_, rfl, p2, form ts, rfl, sqI (e4 _ _ h23), by omega, fun p5 H5 n5 e5 h5 => ?_⟩
    have e35 := e4.trans e5
    refine ⟨_, rfl, neI_ (sqI h5) (sqI (e35 _ _ h23)) ⟨_, rfl, ?_⟩⟩
    refine ifF (by rw [decide_eq_true (form_form ts)]; rfl) ?_
    -- if is_short(turns=_law_turns_here) != ..
    have ha5 := e35 _ _ ha3
    have h25 := e35 _ _ h23
    refine ⟨_, rfl, a, ts, rfl, sqI ha5, by omega, fun H6 e6 => ?_⟩
    have ha6 := e6 _ _ ha5
    have h26 := e6 _ _ h25
    refine ⟨_, rfl, _, rfl, eqI_ (sqI ha6) (sqI h26) ⟨rfl, _, rfl, ?_⟩⟩
    refine ifF ?_ ?_
    · have e : decide (form ts = ts) = decide (ts = form ts) := by
        rw [decide_eq_decide]
        exact eq_comm
      rw [e]
      simp
    · refine ⟨_, rfl, _, rfl, _, rfl, p2, form ts, rfl, sqI h26, by omega, fun g H7 e7 hg hle => ?_⟩
      have g0 : 0 ≤ g := hle 0 (by simp)
      refine ⟨_, _, rfl, rfl, _, _, rfl, a, p2, ts, form ts, _, rfl, sqI (e7 _ _ ha6), sqI (e7 _ _ h26), ?_, ?_, fun v hv => ?_⟩
      · split <;> omega
      · split <;> omega
      · have v1 : v = true := hv.mpr fun S x h0 h1 _ => (form_led (by omega) h0 h1 ts).symm
        subst v1
        refine ⟨_, rfl, iteF ?_⟩
        -- return short_form([..]) == [..]
        have ha7 := e7 _ _ ha6
        have h27 := e7 _ _ h26
        have e07 : Ex H H7 := e03.trans (e35.trans (e6.trans e7))
        have step : ∀ (xs : List Int), (∀ x ∈ xs, x.natAbs < 2 ^ 20) → ∀ (i : Nat) (x y : V) (H' : Hp), (xs.map V.int)[i]? = some x → ((xs.map (wd * ·)).map V.int)[i]? = some y → ∃ t, x = .int t ∧ y = .int (wd * t) ∧ CMulW wd t := fun xs hx i x y H' h1 h2 => by
          obtain ⟨t, ht, rfl⟩ := mapI_get h1
          rw [List.map_map, List.getElem?_map, ht] at h2
          cases h2
          exact ⟨t, rfl, rfl, wide_mul (a := 100) (by omega) (hx t (List.mem_of_getElem? ht)) (by decide) (by decide) (by decide)⟩
        refine ⟨_, rfl, a, rfl, ⟨_, sqI ha7⟩, fun D hD => lc_mapL (xs := ts.map V.int) (ys := (ts.map (wd * ·)).map V.int) (sqI ha7) hD (by simp) ?_ (fun x => rfl) ?_ ?_⟩
        · rw [List.length_map]
          exact Nat.le_trans hl (by decide)
        · intro i x y H' e' hx hy R q
          obtain ⟨t, rfl, rfl, c⟩ := step ts (fun x hx => by have := hb x hx; omega) i x y H' hx hy
          exact ⟨_, rfl, _, rfl, _, _, rfl, rfl, c, q H' (Evl.Ex.refl _)⟩
        · intro H8 e8 h8
          refine ⟨D, ts.map (wd * ·), rfl, sqI h8, by simp; omega, fun p9 H9 n9 e9 h9 => ?_⟩
          have h29 := e9 _ _ (e8 _ _ h27)
          refine ⟨_, rfl, p2, rfl, ⟨_, sqI h29⟩, fun D2 hD2 => lc_mapL (xs := (form ts).map V.int) (ys := ((form ts).map (wd * ·)).map V.int) (sqI h29) hD2 (by simp) ?_ (fun x => rfl) ?_ ?_⟩
          · rw [List.length_map]
            exact Nat.le_trans (Nat.le_trans hfl hl) (by decide)
          · intro i x y H' e' hx hy R q
            obtain ⟨t, rfl, rfl, c⟩ := step (form ts) (form_lt hl hb) i x y H' hx hy
            exact ⟨_, rfl, _, rfl, _, _, rfl, rfl, c, q H' (Evl.Ex.refl _)⟩
          · intro H10 e10 h10
            refine eqI_ (sqI (e10 _ _ h9)) (sqI h10) ?_
            rw [decide_eq_true (form_scale w0 ts)]
            exact k H10 (e07.trans (e8.trans (e9.trans e10)))
end
end K37
set_option Elab.async false
set_option linter.all false
set_option maxRecDepth 100000
set_option maxHeartbeats 4000000
namespace K37
open PySem L2 My
def sp_law (K : PySem.W.Frag) : Sp := fun vs H Q _ => ∃ (a : Addr) (ns : List Int), vs = [.ref a] ∧ SqL K H a (ns.map V.int) ∧ ns.length ≤ 63 ∧ ∀ H', Q (.bl true) H'
theorem exj_ex {H H1 H2 : Hp} {j : Addr} (e : Ex H H1) (n : H j = none) (x : Exj j H1 H2) : Ex H H2 := fun b o h => x b o (ne_of_none h n) (e b o h)
theorem pick3 {x y z : Int} {n : Int} (h0 : 0 ≤ n) (h1 : n < 3) : ∃ v, atI [V.int x, V.int y, V.int z] n = some (V.int v) ∧ (v = x ∨ v = y ∨ v = z) := by
  have : n = 0 ∨ n = 1 ∨ n = 2 := by omega
  rcases this with rfl | rfl | rfl
  · exact ⟨x, at0, .inl rfl⟩
  · exact ⟨y, at1, .inr (.inl rfl)⟩
  · exact ⟨z, at2, .inr (.inr rfl)⟩
theorem pick2 {x y : Int} {n : Int} (h0 : 0 ≤ n) (h1 : n < 2) : ∃ v, atI [V.int x, V.int y] n = some (V.int v) ∧ (v = x ∨ v = y) := by
  have : n = 0 ∨ n = 1 := by omega
  rcases this with rfl | rfl
  · exact ⟨x, at0, .inl rfl⟩
  · exact ⟨y, at1, .inr rfl⟩
section
variable {P : Program} {w : World} {K : PySem.W.Frag} {mg : Str → Option Value} {base : Heap}
theorem ok_law (T : Txt K mg) : FnOk P w K mg base CX0 5 T.a_law T.d_law ["_law_script"] (sp_law K) := by
  refine T.f_law.ok sc_law (fun vs H Q E h => ?_) (fun cdv A outer s H vs Q E hr h => ?_)
  · obtain ⟨a, ns, rfl, _⟩ := h
    rfl
  · obtain ⟨a, ns, rfl, hs, hl, k⟩ := h
    refine ⟨_, (pss_cons (ps_for PassesOwn.never rfl (pi_range1 (by rfl) T.z_range (pa_cons (pe_callB (call_max2 rfl) (by rfl) T.z_max (by decide +kernel) (pa_cons pe_int (pa_cons (pe_callB (call_min2 rfl) (by rfl) T.z_min (by decide +kernel) (pa_cons pe_int (pa_cons (pe_callB call_len_seq (by rfl) T.z_len PySem.boot_len (pa_cons (pv 0) pa_nil)) pa_nil))) pa_nil))) pa_nil)) (pg_name (i := 1) sc_law.nd rfl (by first | exact Or.inl rfl | exact Or.inr rfl)) (pss_cons (ps_set (i := 2) sc_law.nd rfl (by first | exact Or.inl rfl | exact Or.inr rfl) (pe_call (ok__law_jug T) (hr.mono (by decide)) (by rfl) T.g__law_jug T.f__law_jug.kp (b__law_jug T) .nil pass0 (pa_cons (pv 0) (pa_cons (pv 1) pa_nil)))) (pss_cons (ps_set (i := 3) sc_law.nd rfl (by first | exact Or.inl rfl | exact Or.inr rfl) (pe_ix ix_list (pe_lstG (pa_cons pe_int (pa_cons (pe_op op_add pe_int (pe_call (ok__law_pour T) (hr.mono (by decide)) (by rfl) T.g__law_pour T.f__law_pour.kp (b__law_pour T) .nil pass0 (pa_cons (pv 2) (pa_cons pe_int pa_nil)))) (pa_cons (pe_op op_add pe_int (pe_call (ok__law_pour T) (hr.mono (by decide)) (by rfl) T.g__law_pour T.f__law_pour.kp (b__law_pour T) .nil pass0 (pa_cons (pv 2) (pa_cons (pe_op op_powW pe_int pe_int) pa_nil)))) pa_nil)))) (pe_call (ok__law_pour T) (hr.mono (by decide)) (by rfl) T.g__law_pour T.f__law_pour.kp (b__law_pour T) .nil pass0 (pa_cons (pv 2) (pa_cons pe_int pa_nil))) (fun _ _ => rfl))) (pss_cons (ps_set (i := 4) sc_law.nd rfl (by first | exact Or.inl rfl | exact Or.inr rfl) (pe_call (ok__law_turns T) (hr.mono (by decide)) (by rfl) T.g__law_turns T.f__law_turns.kp (b__law_turns T) .nil pass0 (pa_cons (pv 2) (pa_cons pe_int (pa_cons (pe_ix ix_list (pe_lstG (pa_cons pe_int (pa_cons pe_int (pa_cons pe_int pa_nil)))) (pe_call (ok__law_pour T) (hr.mono (by decide)) (by rfl) T.g__law_pour T.f__law_pour.kp (b__law_pour T) .nil pass0 (pa_cons (pv 2) (pa_cons pe_int pa_nil))) (fun _ _ => rfl)) pa_nil))))) (pss_cons (ps_set (i := 5) sc_law.nd rfl (by first | exact Or.inl rfl | exact Or.inr rfl) (pe_cut (pe_ifExp (pt_cmpR op_eq (pe_call (ok__law_pour T) (hr.mono (by decide)) (by rfl) T.g__law_pour T.f__law_pour.kp (b__law_pour T) .nil pass0 (pa_cons (pv 2) (pa_cons pe_int pa_nil))) pe_int (nomark _)) (pe_call (ok__law_changed T) (hr.mono (by decide)) (by rfl) T.g__law_changed T.f__law_changed.kp (b__law_changed T) .nil pass0 (pa_cons (pv 2) (pa_cons (pv 4) pa_nil))) (pe_call (ok__law_turns T) (hr.mono (by decide)) (by rfl) T.g__law_turns T.f__law_turns.kp (b__law_turns T) .nil pass0 (pa_cons (pv 2) (pa_cons pe_int (pa_cons (pe_ix ix_list (pe_lstG (pa_cons pe_int (pa_cons pe_int pa_nil))) (pe_call (ok__law_pour T) (hr.mono (by decide)) (by rfl) T.g__law_pour T.f__law_pour.kp (b__law_pour T) .nil pass0 (pa_cons (pv 2) (pa_cons pe_int pa_nil))) (fun _ _ => rfl)) pa_nil))))))) (pss_cons (ps_if (PW.pt (pw_or (pt_not (pt_val (pe_call (ok__law_form_right T) (hr.mono (by decide)) (by rfl) T.g__law_form_right T.f__law_form_right.kp (b__law_form_right T) .nil pass0 (pa_cons (pv 4) (pa_cons (pv 3) pa_nil))))) (pw_or1 (pt_not (pt_val (pe_call (ok__law_form_right T) (hr.mono (by decide)) (by rfl) T.g__law_form_right T.f__law_form_right.kp (b__law_form_right T) .nil pass0 (pa_cons (pv 5) (pa_cons (pv 3) pa_nil)))))))) (pss_one (ps_ret pe_bl)) pss_nil) (pss_cons (ps_par (by rfl) sc_law.nd rfl rfl (by decide) rfl rfl (i := 6) (j := 7) (pa_cons (pe_call (ok_short_form T) (hr.mono (by decide)) (by rfl) T.g_short_form T.f_short_form.kp (b_short_form T) .nil pass0 (pa_cons (pv 4) pa_nil)) (pa_cons (pe_call (ok_short_form T) (hr.mono (by decide)) (by rfl) T.g_short_form T.f_short_form.kp (b_short_form T) .nil pass0 (pa_cons (pv 5) pa_nil)) pa_nil)) (by rfl)) (pss_cons (ps_set (i := 8) sc_law.nd rfl (by first | exact Or.inl rfl | exact Or.inr rfl) (pe_call (ok_turns_alike T) (hr.mono (by decide)) (by rfl) T.g_turns_alike T.f_turns_alike.kp (b_turns_alike T) .nil pass0 (pa_cons (pv 4) (pa_cons (pv 5) pa_nil)))) (pss_cons (ps_if (PW.pt (pw_or (pt_not (pt_val (pe_callB call_isi (by rfl) T.z_isinstance (by decide +kernel) (pa_cons (pv 8) (pa_cons (pe_bltn (v := .ty "bool") (by rfl) T.z_bool (by decide +kernel) rfl) pa_nil))))) (pw_or (pt_cmpR op_ne (pv 8) (pe_cmpR (op_eqD hr.units) (pv 6) (pv 7) (nomark _)) (nomark _)) (pw_or1 (pt_cmpR op_ne (pe_callK0 (ok_turns_alike T) (hr.mono (by decide)) (by rfl) T.g_turns_alike T.f_turns_alike.kp (kb_turns_alike_0_one_other T) pass0 (pk_cons (pv 5) (pk_cons (pv 4) pk_nil))) (pv 8) (nomark _)))))) (pss_one (ps_ret pe_bl)) pss_nil) (pss_cons (ps_set (i := 9) sc_law.nd rfl (by first | exact Or.inl rfl | exact Or.inr rfl) (pe_op op_add (pe_callB (call_min2 rfl) (by rfl) T.z_min (by decide +kernel) (pa_cons (pe_call (ok__law_greatest T) (hr.mono (by decide)) (by rfl) T.g__law_greatest T.f__law_greatest.kp (b__law_greatest T) .nil pass0 (pa_cons (pe_slice sl_listG (pv 6) po_none (po_some pe_int)) pa_nil)) (pa_cons (pe_call (ok__law_greatest T) (hr.mono (by decide)) (by rfl) T.g__law_greatest T.f__law_greatest.kp (b__law_greatest T) .nil pass0 (pa_cons (pe_slice sl_listG (pv 7) po_none (po_some pe_int)) pa_nil)) pa_nil))) pe_int)) (pss_cons (ps_if (pt_cut (PW.pt (pw_and (pt_cmpR op_lt (pv 9) pe_int (nomark _)) (pw_and1 (pt_cmpR op_ne (pe_call (ok__law_same T) (hr.mono (by decide)) (by rfl) T.g__law_same T.f__law_same.kp (b__law_same T) .nil pass0 (pa_cons (pv 4) (pa_cons (pv 5) (pa_cons (pv 9) pa_nil)))) (pv 8) (nomark _)))))) (pss_one (ps_ret pe_bl)) pss_nil) (pss_cons (ps_expr (pe_bm PySem.F.plainAttrs_list PySem.F.slot_list_append PySem.F.type_list_append mt_append (pv 6) (pa_cons pe_int pa_nil))) (pss_one (ps_if (PW.pt (pw_or (pt_cmpR (op_eqD hr.units) (pe_call (ok_short_form T) (hr.mono (by decide)) (by rfl) T.g_short_form T.f_short_form.kp (b_short_form T) .nil pass0 (pa_cons (pv 4) pa_nil)) (pv 6) (nomark _)) (pw_or1 (pt_not (pt_val (pe_call (ok_turns_alike T) (hr.mono (by decide)) (by rfl) T.g_turns_alike T.f_turns_alike.kp (b_turns_alike T) .nil pass0 (pa_cons (pe_slice sl_listG (pv 4) po_none (po_some pe_int)) (pa_cons (pe_op op_catG (pe_lstG (pa_cons pe_int pa_nil)) (pe_slice sl_listG (pv 4) po_none (po_some pe_int))) pa_nil)))))))) (pss_one (ps_ret pe_bl)) pss_nil)))))))))))))) (pss_one (ps_ret pe_bl))), ?_⟩
    refine ⟨_, rfl, _, _, rfl, .inl hs, _, _, rfl, _, _, rfl, ?_⟩
    -- how many cells
    have hN : ∃ N : Int, (if (if ((ns.map V.int).length : Int) < 3 then ((ns.map V.int).length : Int) else 3) > 1 then (if ((ns.map V.int).length : Int) < 3 then ((ns.map V.int).length : Int) else 3) else 1) = N ∧ 1 ≤ N ∧ N ≤ 3 := ⟨_, rfl, by split <;> omega, by split <;> split <;> omega⟩
    obtain ⟨N, eN, N1, N3⟩ := hN
    rw [eN]
    refine ⟨_, rfl, (by omega), (by omega), for_range (lo := 0) (n := N.toNat) (fun i σ H' => ∃ v1 v2 v3 v4 v5 v6 v7 v8 v9, σ = [some (.ref a), v1, v2, v3, v4, v5, v6, v7, v8, v9] ∧ Ex H H') ⟨_, _, _, _, _, _, _, _, _, rfl, Evl.Ex.refl _⟩ ?_ ?_⟩
    · rintro i σ H0 hi ⟨v1, v2, v3, v4, v5, v6, v7, v8, v9, rfl, e0⟩
      -- _law_jug_here = _law_jug(_law_script, _law_k)
      refine ⟨_, rfl, _, rfl, a, ns, _, rfl, Evl.ex_l e0 hs, by omega, by omega, fun j H1 nj e1 j1 => ?_⟩
      have njH : H j = none := Evl.fresh_back e0 nj
      -- _law_width
      refine ⟨_, rfl, j, _, _, rfl, j1, by decide, by decide, by decide, fun d1 H2 d10 d11 x2 j2 => ?_⟩
      refine ⟨_, _, rfl, rfl, _, rfl, _, _, rfl, rfl, (show CPowW 10 28 by constructor <;> decide +kernel), j, _, _, rfl, j2, by decide, by decide +kernel, by decide +kernel, fun d2 H3 d20 d21 x3 j3 => ?_⟩
      have d22 : d2 < 2 ^ 99 := Int.lt_trans d21 (by decide +kernel)
      refine ⟨_, _, rfl, rfl, (by show 3 ≤ sizeLine; decide), fun p4 H4 n4 e4 h4 => ?_⟩
      refine ⟨_, rfl, j, _, _, rfl, j3.ex e4, by decide, by decide, by decide, fun d3 H5 d30 d31 x5 j5 => ?_⟩
      have n4j : p4 ≠ j := j3.ne n4
      obtain ⟨wd, hwd, ewd⟩ := pick3 (x := 1) (y := 2 + d1) (z := 1 + d2) d30 d31
      refine ⟨_, _, _, _, rfl, rfl, sqI (x5 _ _ n4j h4), hwd, ?_⟩
      have wd0 : 0 < wd := by omega
      have wd1 : wd < 2 ^ 100 := by omega
      have x15 : Exj j H1 H5 := x2.trans (x3.trans ((Exj.of e4).trans x5))
      -- _law_one
      refine ⟨_, rfl, (by show 3 ≤ sizeLine; decide), fun p6 H6 n6 e6 h6 => ?_⟩
      refine ⟨_, rfl, j, _, _, rfl, j5.ex e6, by decide, by decide, by decide, fun d4 H7 d40 d41 x7 j7 => ?_⟩
      have n6j : p6 ≠ j := j5.ne n6
      obtain ⟨sz, hsz, esz⟩ := pick3 (x := 2) (y := 5) (z := 5) d40 d41
      refine ⟨_, _, _, _, rfl, rfl, sqI (x7 _ _ n6j h6), hsz, ?_⟩
      refine ⟨j, 7, sz, _, rfl, j7, by decide, by decide, by decide, by omega, by omega, fun pa H8 ts na x8 j8 hA lA bA => ?_⟩
      have x18 : Exj j H1 H8 := x15.trans ((Exj.of e6).trans (x7.trans x8))
      have naj : pa ≠ j := j7.ne na
      have e08 : Ex H H8 := exj_ex (e0.trans e1) njH x18
      -- _law_other
      refine ⟨fun v H' => ∃ (pb : Addr) (us : List Int), v = .ref pb ∧ Ex H H' ∧ H' pa = some (.lst (ts.map V.int)) ∧ H' pb = some (.lst (us.map V.int)) ∧ us.length ≤ 100 ∧ (∀ t ∈ us, -1000 ≤ t ∧ t ≤ 1000), ?_, ?_⟩
      · refine ⟨_, rfl, j, _, _, rfl, j8, by decide, by decide, by decide, fun d5 H9 d50 d51 x9 j9 => ?_⟩
        refine ⟨rfl, _, rfl, ?_⟩
        refine ifB (fun _ => ?_) (fun _ => ?_)
        · refine ⟨_, rfl, _, rfl, j, pa, ts, _, rfl, j9, by decide, x9 _ _ naj hA, naj, by omega, bA, fun pb H10 us nb x10 j10 hB lB bB => ?_⟩
          exact ⟨pb, us, rfl, exj_ex e08 njH (x9.trans x10), x10 _ _ naj (x9 _ _ naj hA), hB, lB, bB⟩
        · refine ⟨_, rfl, (by show 2 ≤ sizeLine; decide), fun p10 H10 n10 e10 h10 => ?_⟩
          refine ⟨_, rfl, j, _, _, rfl, j9.ex e10, by decide, by decide, by decide, fun d6 H11 d60 d61 x11 j11 => ?_⟩
          obtain ⟨s2, hs2, es2⟩ := pick2 (x := 2) (y := 5) d60 d61
          refine ⟨_, _, _, _, rfl, rfl, sqI (x11 _ _ (j9.ne n10) h10), hs2, ?_⟩
          refine ⟨j, 7, s2, _, rfl, j11, by decide, by decide, by decide, by omega, by omega, fun pb H12 us nb x12 j12 hB lB bB => ?_⟩
          have x812 : Exj j H8 H12 := x9.trans ((Exj.of e10).trans (x11.trans x12))
          exact ⟨pb, us, rfl, exj_ex e08 njH x812, x812 _ _ naj hA, hB, by omega, fun t ht => by have := bB t ht; omega⟩
      · rintro v H9 ⟨pb, us, rfl, e09, hA9, hB9, lB, bB⟩
        have bA' : ∀ t ∈ ts, -1000 ≤ t ∧ t ≤ 1000 := fun t ht => by have := bA t ht; omega
        -- if not _law_form_right(..) or not _law_form_right(..)
        refine ⟨_, rfl, _, rfl, pa, ts, wd, rfl, hA9, by omega, bA', wd0, wd1, fun H10 e10 => ?_⟩
        refine ⟨_, rfl, ifF rfl ?_⟩
        refine ⟨_, rfl, _, rfl, pb, us, wd, rfl, e10 _ _ hB9, by omega, bB, wd0, wd1, fun H11 e11 => ?_⟩
        refine ⟨_, rfl, iteF ?_⟩
        have hA11 := e11 _ _ (e10 _ _ hA9)
        have hB11 := e11 _ _ (e10 _ _ hB9)
        have e011 := e09.trans (e10.trans e11)
        -- _law_first, _law_second
        refine ⟨_, rfl, pa, ts, rfl, sqI hA11, by omega, fun pf H12 nf e12 hf => ?_⟩
        refine ⟨_, rfl, pb, us, rfl, sqI (e12 _ _ hB11), by omega, fun pg H13 ng e13 hg => ?_⟩
        refine ⟨_, _, rfl, ?_⟩
        have hA13 := e13 _ _ (e12 _ _ hA11)
        have hB13 := e13 _ _ (e12 _ _ hB11)
        have hf13 := e13 _ _ hf
        have nfH : H pf = none := Evl.fresh_back e011 nf
        have nfa : pa ≠ pf := ne_of_none hA11 nf
        -- _law_alike
        refine ⟨_, rfl, _, rfl, pa, pb, ts, us, rfl, sqI hA13, sqI hB13, by omega, by omega, fun H14 e14 => ?_⟩
        have hA14 := e14 _ _ hA13
        have hB14 := e14 _ _ hB13
        have hf14 := e14 _ _ hf13
        have hg14 := e14 _ _ hg
        refine ⟨_, rfl, _, _, _, _, _, rfl, .ty _, .base (.bl _), kit_ty (r := true) (by decide +kernel), _, rfl, ifF rfl ?_⟩
        refine ⟨_, rfl, _, rfl, _, rfl, eqI_ (sqI hf14) (sqI hg14) ⟨rfl, _, rfl, ?_⟩⟩
        refine ifF (by simp) ?_
        refine ⟨_, rfl, _, rfl, pb, pa, us, ts, rfl, sqI hB14, sqI hA14, by omega, by omega, fun H15 e15 => ?_⟩
        refine ⟨_, rfl, rfl, _, rfl, ?_⟩
        have hA15 := e15 _ _ hA14
        have hB15 := e15 _ _ hB14
        have hf15 := e15 _ _ hf14
        have hg15 := e15 _ _ hg14
        have e015 := e011.trans (e12.trans (e13.trans (e14.trans e15)))
        refine ifF ?_ ?_
        · have e : decide (form us = form ts) = decide (form ts = form us) := by
            rw [decide_eq_decide]
            exact eq_comm
          rw [e]
          simp
        · -- _law_most
          have ec : ∀ f : List Int, cutV (f.map V.int) none (some 2) = (f.take 2).map V.int := fun f => by
            rw [List.map_take]
            exact cut_to _ 2
          refine ⟨_, rfl, _, rfl, _, _, rfl, sqI hf15, fun p16 H16 n16 e16 h16 => ?_⟩
          rw [ec] at h16
          refine ⟨p16, _, rfl, sqI h16, by simp; omega, fun g1 H17 e17 m1 l1 => ?_⟩
          have hg1 := gr_of m1 l1
          refine ⟨_, rfl, _, rfl, _, _, rfl, sqI (e17 _ _ (e16 _ _ hg15)), fun p18 H18 n18 e18 h18 => ?_⟩
          rw [ec] at h18
          refine ⟨p18, _, rfl, sqI h18, by simp; omega, fun g2 H19 e19 m2 l2 => ?_⟩
          have hg2 := gr_of m2 l2
          have g10 := gr_nn (form ts)
          have g20 := gr_nn (form us)
          refine ⟨_, _, rfl, _, _, rfl, rfl, ?_⟩
          have e1519 := e16.trans (e17.trans (e18.trans e19))
          have hA19 := e1519 _ _ hA15
          have hB19 := e1519 _ _ hB15
          have hf19 := e1519 _ _ hf15
          have e019 := e015.trans e1519
          have hmost : ∃ m : Int, (if g2 < g1 then g2 else g1) + 1 = m ∧ 0 ≤ m ∧ m = (if gr (form ts) < gr (form us) then gr (form ts) else gr (form us)) + 1 := ⟨_, rfl, by split <;> omega, by rw [hg1, hg2]; split <;> split <;> omega⟩
          obtain ⟨m, em, m0, hm⟩ := hmost
          -- if _law_most < 16 and ..
          refine ⟨fun b H' => b = false ∧ H' = H19, ?_, ?_⟩
          · refine ⟨_, rfl, _, _, rfl, rfl, _, rfl, ?_⟩
            show if decide ((if g2 < g1 then g2 else g1) + 1 < 16) = true then _ else _
            rw [em]
            refine ifB (fun c => ?_) (fun _ => ⟨rfl, rfl⟩)
            have c' := of_decide_eq_true c
            refine ⟨_, rfl, _, rfl, _, rfl, pa, pb, ts, us, (if g2 < g1 then g2 else g1) + 1, rfl, sqI hA19, sqI hB19, by rw [em]; exact m0, by rw [em]; omega, fun v hv => ?_⟩
            rw [em] at hv
            refine ⟨_, rfl, rfl, _, rfl, ?_, rfl⟩
            have ev : v = decide (form ts = form us) := by
              rw [Bool.eq_iff_iff, hv, alike_iff hm]
              simp
            rw [ev]
            simp
          · rintro b H' ⟨rfl, rfl⟩
            refine iteF ?_
            -- _law_first.append(9)
            have lf : ((form ts).map V.int).length ≤ 100 := by
              rw [List.length_map]
              have := form_len ts
              omega
            refine ⟨_, rfl, .inl ⟨rfl, _, sqI hf19⟩, _, _, _, rfl, rfl, hf19, Nat.lt_of_le_of_lt lf (by decide), ?_⟩
            have hA20 : upd H' pf (.lst ((form ts).map V.int ++ [.int 9])) pa = some (.lst (ts.map V.int)) := by
              rw [upd_ne nfa]
              exact hA19
            have hf20 : upd H' pf (.lst ((form ts).map V.int ++ [.int 9])) pf = some (.lst ((form ts ++ [9]).map V.int)) := by
              rw [upd_same, List.map_append]
              rfl
            have e020 : Ex H (upd H' pf (.lst ((form ts).map V.int ++ [.int 9]))) := Evl.Ex.mut e019 nfH
            generalize upd H' pf (.lst ((form ts).map V.int ++ [.int 9])) = H20 at hA20 hf20 e020 ⊢
            refine ⟨_, rfl, pa, ts, rfl, sqI hA20, by omega, fun p21 H21 n21 e21 h21 => ?_⟩
            refine ⟨_, rfl, eqI_ (sqI h21) (sqI (e21 _ _ hf20)) ⟨_, rfl, ?_⟩⟩
            refine ifF (decide_eq_false fun q => ?_) ?_
            · have := congrArg List.length q
              simp at this
            · have ec59 : cutV (ts.map V.int) none (some 59) = (ts.take 59).map V.int := by
                rw [List.map_take]
                exact cut_to _ 59
              have hA21 := e21 _ _ hA20
              refine ⟨_, rfl, _, rfl, _, _, rfl, sqI hA21, fun p22 H22 n22 e22 h22 => ?_⟩
              rw [ec59] at h22
              refine ⟨(by show 1 ≤ sizeLine; decide), fun p23 H23 n23 e23 h23 => ?_⟩
              have hA23 := e23 _ _ (e22 _ _ hA21)
              refine ⟨_, rfl, _, rfl, _, _, rfl, sqI hA23, fun p24 H24 n24 e24 h24 => ?_⟩
              rw [ec59] at h24
              have l59 : (ts.take 59).length ≤ 59 := List.length_take_le _ _
              refine ⟨_, _, _, _, rfl, rfl, e24 _ _ h23, h24, ?_, fun p25 H25 n25 e25 h25 => ?_⟩
              · rw [List.length_map]
                exact Nat.le_trans (Nat.add_le_add (Nat.le_refl 1) l59) (by decide)
              · refine ⟨p22, p25, ts.take 59, 0 :: ts.take 59, rfl, sqI (e25 _ _ (e24 _ _ (e23 _ _ h22))), sqI h25, by omega, by simp; omega, fun H26 e26 => ?_⟩
                refine ⟨_, rfl, ?_⟩
                refine ifF (by rw [decide_eq_true (form_zero _).symm]; rfl) ?_
                exact ⟨_, _, _, _, _, _, _, _, _, rfl, e020.trans (e21.trans (e22.trans (e23.trans (e24.trans (e25.trans e26)))))⟩
    · rintro σ H' ⟨v1, v2, v3, v4, v5, v6, v7, v8, v9, rfl, e⟩
      exact k H'
end
end K37
set_option Elab.async false
set_option linter.all false
set_option maxRecDepth 100000
set_option maxHeartbeats 4000000
namespace K37
open PySem L2 My
theorem all_mk {K : PySem.W.Frag} {h : Heap} {mg : Str → Option Value} (X : K.In h) (G : h.Ns mainGlobals mg)
    {f0 : Addr} {od0 an0 : Option Addr} {sl0 : Array (Option Value)} {oc0 kV0 dc0 pm0 cd0 ct0 : Value}
    (a0 : PySem.W.nsIn K mainGlobals "add_turn" = some (some (.ref f0))) (l0 : K.lookup f0 = some ⟨oc0, od0, .func (PySem.W.fnOf "add_turn" "add_turn" (defArgs s_add_turn) (defBody s_add_turn) (defScope s_add_turn) .none kV0 dc0 pm0 an0 cd0 ct0), sl0⟩) (c0 : PySem.W.codeIn K cd0 "add_turn" = true) (k0 : PySem.W.keepIn K (.ref f0) = true)
    {f1 : Addr} {od1 an1 : Option Addr} {sl1 : Array (Option Value)} {oc1 kV1 dc1 pm1 cd1 ct1 : Value}
    (a1 : PySem.W.nsIn K mainGlobals "form_in" = some (some (.ref f1))) (l1 : K.lookup f1 = some ⟨oc1, od1, .func (PySem.W.fnOf "form_in" "form_in" (defArgs s_form_in) (defBody s_form_in) (defScope s_form_in) .none kV1 dc1 pm1 an1 cd1 ct1), sl1⟩) (c1 : PySem.W.codeIn K cd1 "form_in" = true) (k1 : PySem.W.keepIn K (.ref f1) = true)
    {f2 : Addr} {od2 an2 : Option Addr} {sl2 : Array (Option Value)} {oc2 kV2 dc2 pm2 cd2 ct2 : Value}
    (a2 : PySem.W.nsIn K mainGlobals "short_form" = some (some (.ref f2))) (l2 : K.lookup f2 = some ⟨oc2, od2, .func (PySem.W.fnOf "short_form" "short_form" (defArgs s_short_form) (defBody s_short_form) (defScope s_short_form) .none kV2 dc2 pm2 an2 cd2 ct2), sl2⟩) (c2 : PySem.W.codeIn K cd2 "short_form" = true) (k2 : PySem.W.keepIn K (.ref f2) = true)
    {f3 : Addr} {od3 an3 : Option Addr} {sl3 : Array (Option Value)} {oc3 kV3 dc3 pm3 cd3 ct3 : Value}
    (a3 : PySem.W.nsIn K mainGlobals "is_short" = some (some (.ref f3))) (l3 : K.lookup f3 = some ⟨oc3, od3, .func (PySem.W.fnOf "is_short" "is_short" (defArgs s_is_short) (defBody s_is_short) (defScope s_is_short) .none kV3 dc3 pm3 an3 cd3 ct3), sl3⟩) (c3 : PySem.W.codeIn K cd3 "is_short" = true) (k3 : PySem.W.keepIn K (.ref f3) = true)
    {f4 : Addr} {od4 an4 : Option Addr} {sl4 : Array (Option Value)} {oc4 kV4 dc4 pm4 cd4 ct4 : Value}
    (a4 : PySem.W.nsIn K mainGlobals "turns_alike" = some (some (.ref f4))) (l4 : K.lookup f4 = some ⟨oc4, od4, .func (PySem.W.fnOf "turns_alike" "turns_alike" (defArgs s_turns_alike) (defBody s_turns_alike) (defScope s_turns_alike) .none kV4 dc4 pm4 an4 cd4 ct4), sl4⟩) (c4 : PySem.W.codeIn K cd4 "turns_alike" = true) (k4 : PySem.W.keepIn K (.ref f4) = true)
    {f5 : Addr} {od5 an5 : Option Addr} {sl5 : Array (Option Value)} {oc5 kV5 dc5 pm5 cd5 ct5 : Value}
    (a5 : PySem.W.nsIn K mainGlobals "_law_jug" = some (some (.ref f5))) (l5 : K.lookup f5 = some ⟨oc5, od5, .func (PySem.W.fnOf "_law_jug" "_law_jug" (defArgs s__law_jug) (defBody s__law_jug) (defScope s__law_jug) .none kV5 dc5 pm5 an5 cd5 ct5), sl5⟩) (c5 : PySem.W.codeIn K cd5 "_law_jug" = true) (k5 : PySem.W.keepIn K (.ref f5) = true)
    {f6 : Addr} {od6 an6 : Option Addr} {sl6 : Array (Option Value)} {oc6 kV6 dc6 pm6 cd6 ct6 : Value}
    (a6 : PySem.W.nsIn K mainGlobals "_law_pour" = some (some (.ref f6))) (l6 : K.lookup f6 = some ⟨oc6, od6, .func (PySem.W.fnOf "_law_pour" "_law_pour" (defArgs s__law_pour) (defBody s__law_pour) (defScope s__law_pour) .none kV6 dc6 pm6 an6 cd6 ct6), sl6⟩) (c6 : PySem.W.codeIn K cd6 "_law_pour" = true) (k6 : PySem.W.keepIn K (.ref f6) = true)
    {f7 : Addr} {od7 an7 : Option Addr} {sl7 : Array (Option Value)} {oc7 kV7 dc7 pm7 cd7 ct7 : Value}
    (a7 : PySem.W.nsIn K mainGlobals "_law_turns" = some (some (.ref f7))) (l7 : K.lookup f7 = some ⟨oc7, od7, .func (PySem.W.fnOf "_law_turns" "_law_turns" (defArgs s__law_turns) (defBody s__law_turns) (defScope s__law_turns) .none kV7 dc7 pm7 an7 cd7 ct7), sl7⟩) (c7 : PySem.W.codeIn K cd7 "_law_turns" = true) (k7 : PySem.W.keepIn K (.ref f7) = true)
    {f8 : Addr} {od8 an8 : Option Addr} {sl8 : Array (Option Value)} {oc8 kV8 dc8 pm8 cd8 ct8 : Value}
    (a8 : PySem.W.nsIn K mainGlobals "_law_led" = some (some (.ref f8))) (l8 : K.lookup f8 = some ⟨oc8, od8, .func (PySem.W.fnOf "_law_led" "_law_led" (defArgs s__law_led) (defBody s__law_led) (defScope s__law_led) .none kV8 dc8 pm8 an8 cd8 ct8), sl8⟩) (c8 : PySem.W.codeIn K cd8 "_law_led" = true) (k8 : PySem.W.keepIn K (.ref f8) = true)
    {f9 : Addr} {od9 an9 : Option Addr} {sl9 : Array (Option Value)} {oc9 kV9 dc9 pm9 cd9 ct9 : Value}
    (a9 : PySem.W.nsIn K mainGlobals "_law_greatest" = some (some (.ref f9))) (l9 : K.lookup f9 = some ⟨oc9, od9, .func (PySem.W.fnOf "_law_greatest" "_law_greatest" (defArgs s__law_greatest) (defBody s__law_greatest) (defScope s__law_greatest) .none kV9 dc9 pm9 an9 cd9 ct9), sl9⟩) (c9 : PySem.W.codeIn K cd9 "_law_greatest" = true) (k9 : PySem.W.keepIn K (.ref f9) = true)
    {f10 : Addr} {od10 an10 : Option Addr} {sl10 : Array (Option Value)} {oc10 kV10 dc10 pm10 cd10 ct10 : Value}
    (a10 : PySem.W.nsIn K mainGlobals "_law_same" = some (some (.ref f10))) (l10 : K.lookup f10 = some ⟨oc10, od10, .func (PySem.W.fnOf "_law_same" "_law_same" (defArgs s__law_same) (defBody s__law_same) (defScope s__law_same) .none kV10 dc10 pm10 an10 cd10 ct10), sl10⟩) (c10 : PySem.W.codeIn K cd10 "_law_same" = true) (k10 : PySem.W.keepIn K (.ref f10) = true)
    {f11 : Addr} {od11 an11 : Option Addr} {sl11 : Array (Option Value)} {oc11 kV11 dc11 pm11 cd11 ct11 : Value}
    (a11 : PySem.W.nsIn K mainGlobals "_law_is_form" = some (some (.ref f11))) (l11 : K.lookup f11 = some ⟨oc11, od11, .func (PySem.W.fnOf "_law_is_form" "_law_is_form" (defArgs s__law_is_form) (defBody s__law_is_form) (defScope s__law_is_form) .none kV11 dc11 pm11 an11 cd11 ct11), sl11⟩) (c11 : PySem.W.codeIn K cd11 "_law_is_form" = true) (k11 : PySem.W.keepIn K (.ref f11) = true)
    {f12 : Addr} {od12 an12 : Option Addr} {sl12 : Array (Option Value)} {oc12 kV12 dc12 pm12 cd12 ct12 : Value}
    (a12 : PySem.W.nsIn K mainGlobals "_law_changed" = some (some (.ref f12))) (l12 : K.lookup f12 = some ⟨oc12, od12, .func (PySem.W.fnOf "_law_changed" "_law_changed" (defArgs s__law_changed) (defBody s__law_changed) (defScope s__law_changed) .none kV12 dc12 pm12 an12 cd12 ct12), sl12⟩) (c12 : PySem.W.codeIn K cd12 "_law_changed" = true) (k12 : PySem.W.keepIn K (.ref f12) = true)
    {f13 : Addr} {od13 an13 : Option Addr} {sl13 : Array (Option Value)} {oc13 kV13 dc13 pm13 cd13 ct13 : Value}
    (a13 : PySem.W.nsIn K mainGlobals "_law_form_right" = some (some (.ref f13))) (l13 : K.lookup f13 = some ⟨oc13, od13, .func (PySem.W.fnOf "_law_form_right" "_law_form_right" (defArgs s__law_form_right) (defBody s__law_form_right) (defScope s__law_form_right) .none kV13 dc13 pm13 an13 cd13 ct13), sl13⟩) (c13 : PySem.W.codeIn K cd13 "_law_form_right" = true) (k13 : PySem.W.keepIn K (.ref f13) = true)
    {f14 : Addr} {od14 an14 : Option Addr} {sl14 : Array (Option Value)} {oc14 kV14 dc14 pm14 cd14 ct14 : Value}
    (a14 : PySem.W.nsIn K mainGlobals "law" = some (some (.ref f14))) (l14 : K.lookup f14 = some ⟨oc14, od14, .func (PySem.W.fnOf "law" "law" (defArgs s_law) (defBody s_law) (defScope s_law) .none kV14 dc14 pm14 an14 cd14 ct14), sl14⟩) (c14 : PySem.W.codeIn K cd14 "law" = true) (k14 : PySem.W.keepIn K (.ref f14) = true)
    (z_len : PySem.W.nsIn K mainGlobals "len" = some none)
    (z_abs : PySem.W.nsIn K mainGlobals "abs" = some none)
    (z_max : PySem.W.nsIn K mainGlobals "max" = some none)
    (z_int : PySem.W.nsIn K mainGlobals "int" = some none)
    (z_range : PySem.W.nsIn K mainGlobals "range" = some none)
    (z_min : PySem.W.nsIn K mainGlobals "min" = some none)
    (z_enumerate : PySem.W.nsIn K mainGlobals "enumerate" = some none)
    (z_list : PySem.W.nsIn K mainGlobals "list" = some none)
    (z_isinstance : PySem.W.nsIn K mainGlobals "isinstance" = some none)
    (z_bool : PySem.W.nsIn K mainGlobals "bool" = some none)
    : ∃ T : Txt K mg, T.d_law = PySem.W.fnOf "law" "law" (defArgs s_law) (defBody s_law) (defScope s_law) .none kV14 dc14 pm14 an14 cd14 ct14 ∧ T.a_law = f14 :=
  ⟨⟨f0, _, fun_mk (st := s_add_turn) l0 c0 k0, PySem.W.mg_of X G a0, f1, _, fun_mk (st := s_form_in) l1 c1 k1, PySem.W.mg_of X G a1, f2, _, fun_mk (st := s_short_form) l2 c2 k2, PySem.W.mg_of X G a2, f3, _, fun_mk (st := s_is_short) l3 c3 k3, PySem.W.mg_of X G a3, f4, _, fun_mk (st := s_turns_alike) l4 c4 k4, PySem.W.mg_of X G a4, f5, _, fun_mk (st := s__law_jug) l5 c5 k5, PySem.W.mg_of X G a5, f6, _, fun_mk (st := s__law_pour) l6 c6 k6, PySem.W.mg_of X G a6, f7, _, fun_mk (st := s__law_turns) l7 c7 k7, PySem.W.mg_of X G a7, f8, _, fun_mk (st := s__law_led) l8 c8 k8, PySem.W.mg_of X G a8, f9, _, fun_mk (st := s__law_greatest) l9 c9 k9, PySem.W.mg_of X G a9, f10, _, fun_mk (st := s__law_same) l10 c10 k10, PySem.W.mg_of X G a10, f11, _, fun_mk (st := s__law_is_form) l11 c11 k11, PySem.W.mg_of X G a11, f12, _, fun_mk (st := s__law_changed) l12 c12 k12, PySem.W.mg_of X G a12, f13, _, fun_mk (st := s__law_form_right) l13 c13 k13, PySem.W.mg_of X G a13, f14, _, fun_mk (st := s_law) l14 c14 k14, PySem.W.mg_of X G a14, PySem.W.mg_none_of X G z_len, PySem.W.mg_none_of X G z_abs, PySem.W.mg_none_of X G z_max, PySem.W.mg_none_of X G z_int, PySem.W.mg_none_of X G z_range, PySem.W.mg_none_of X G z_min, PySem.W.mg_none_of X G z_enumerate, PySem.W.mg_none_of X G z_list, PySem.W.mg_none_of X G z_isinstance, PySem.W.mg_none_of X G z_bool⟩, rfl, rfl⟩
theorem walk {l : PySem.W.OpenLaw} {q : Program} {loose : List Str} {XP : (Str → Option Value) → Heap → Prop} {YP : World → Heap → Prop} {d : DefRec} {K : Params → PySem.W.Frag} (hn : l.most = some 63) (hdf : d.params.defaults = [])
    (hY : ∀ (w : World) (h : Heap), YP w h → (K w.params).In h)
    (F : ∀ (w : World) (mg : Str → Option Value) (fa : Addr) (h : Heap), (K w.params).In h → h.Ns mainGlobals mg → mg d.name = some (.ref fa) →
      ∃ fd : FuncData, (∀ (s : Shared) (u : Value), BindsTo s fd ⟨[u], []⟩ [("_law_script", u)]) ∧ ∀ base : Heap, (K w.params).In base → base.Ns mainGlobals mg → FnOk l.prog w (K w.params) mg base CX0 5 fa fd ["_law_script"] (sp_law (K w.params))) :
    PySem.W.WalkO q loose XP YP l.row.toRowW d [] (fun f vs => PySem.call f vs) :=
  L2.walk_of (n := 63) (k := 5) (x := "_law_script") (CX := fun _ => CX0) (sp := fun w => sp_law (K w.params)) hn (by decide) hdf ⟨rfl, by decide, by decide⟩ hY F (fun _ _ a ns hl _ hS => ⟨a, ns, rfl, hS, hl, fun _ => rfl⟩) fun _ _ _ _ _ z => z
end K37
open PySem PySem.W PyProof.Rows
set_option maxRecDepth 100000 in
set_option maxHeartbeats 0 in
theorem PySem.Challenge.cw_listwindow_k37_short_forms_in_all_rooms_holds : PySem.Challenge.rw_listwindow_k37_short_forms_in_all_rooms.Holds := by
  w_on; o_law; k_head; (case hw => w_witness2)
  k_fill
  refine K37.walk (l := PySem.Challenge.rw_listwindow_k37_short_forms_in_all_rooms) rfl rfl (fun w h Y => PySem.W.kIn_of Y) ?F
  case F =>
    intro w mg fa h KX G hmg
    have T : ∃ T : K37.Txt _ mg, _ ∧ _ := K37.all_mk KX G (by k_is) (by k_is) (by k_is) (by k_is) (by k_is) (by k_is) (by k_is) (by k_is) (by k_is) (by k_is) (by k_is) (by k_is) (by k_is) (by k_is) (by k_is) (by k_is) (by k_is) (by k_is) (by k_is) (by k_is) (by k_is) (by k_is) (by k_is) (by k_is) (by k_is) (by k_is) (by k_is) (by k_is) (by k_is) (by k_is) (by k_is) (by k_is) (by k_is) (by k_is) (by k_is) (by k_is) (by k_is) (by k_is) (by k_is) (by k_is) (by k_is) (by k_is) (by k_is) (by k_is) (by k_is) (by k_is) (by k_is) (by k_is) (by k_is) (by k_is) (by k_is) (by k_is) (by k_is) (by k_is) (by k_is) (by k_is) (by k_is) (by k_is) (by k_is) (by k_is) (by k_is) (by k_is) (by k_is) (by k_is) (by k_is) (by k_is) (by k_is) (by k_is) (by k_is) (by k_is)
    obtain ⟨T, e1, e2⟩ := T
    have e3 := hmg.symm.trans T.g_law
    cases e3
    exact ⟨T.d_law, fun s v => by rw [e1]; exact .of_eq rfl, fun base _ _ => K37.ok_law T⟩
#print axioms PySem.Challenge.cw_listwindow_k37_short_forms_in_all_rooms_holds

