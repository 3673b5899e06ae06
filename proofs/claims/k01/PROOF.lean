import PyProof.Rows.All
import Wide.All
import OpenK.AllK
import Wide.FinOn
import PyProof.EqAt
import PyProof.EqKinds
import PyProof.TupleCall
import HandS.ForMost
import HandS.Defaults
import HandS.IsInst
import HandS.TupAny
import HandS.TupMul
import HandS.Style
import HandS.Evl
import PySem.Challenge.RW_parlourday_k01_what_is_a_web
set_option Elab.async false
set_option linter.all false
set_option maxRecDepth 100000
set_option maxHeartbeats 4000000
/-! Words of our own over the hand layer: a def by its name, data of tuples, the hand that draws. -/
namespace Pd
open PySem PySem.Spec PyProof.Rows L2

/-! ### a def under its name -/
structure Fn (P : Program) (w : World) (K : PySem.W.Frag) (mg : Str → Option Value) (base : Heap) (k : Nat) (x : Str) (sp : Sp) : Prop where
  ex : ∃ (f : Addr) (fd : FuncData) (ps : List Str), FnOk P w K mg base CX0 k f fd ps sp ∧ mg x = some (.ref f) ∧ PySem.W.keepIn K (.ref f) = true ∧ Binds K fd ps []
structure FnK (P : Program) (w : World) (K : PySem.W.Frag) (mg : Str → Option Value) (base : Heap) (k : Nat) (x : Str) (ks : List Str) (gV : List V → List V → List V) (sp : Sp) : Prop where
  ex : ∃ (f : Addr) (fd : FuncData) (ps : List Str) (g : List Value → List Value → List Value), FnOk P w K mg base CX0 k f fd ps sp ∧ mg x = some (.ref f) ∧ PySem.W.keepIn K (.ref f) = true ∧ KBn K fd ps 0 ks g gV
section
variable {X : Cx} {k j : Nat} {x : Str} {sp : Sp} {p pos : Pos} {e : Expr} {es : List Expr} {t tk : TA} {kws : List Keyword} {ks : List Str} {gV : List V → List V → List V}
theorem pe_f (c : Fn X.prog X.w X.K X.mg X.base k x sp) (hr : Room j X.A) (hk : k ≤ j) (hg : Gl X x) (ha : PA X (e :: es) t)
    (hdb : (x == ("__debug__" : Str)) = false := by decide) (he : starEach (e :: es) X.env = (false, eval e X.env) :: starEach es X.env := by rfl) (hpl : (backTo pos (starEach es X.env)).any (·.1) = false := by rfl) :
    PE X (.Call (.Name x p) (e :: es) [] pos) (tCall sp [] E0 t) := by
  obtain ⟨f, fd, ps, F, hm, kp, b⟩ := c.ex
  exact pe_call F (hr.mono hk) hg hm kp b .nil pass0 ha hdb he hpl
/-- f(k = v, ..) -/
theorem pe_fk (c : FnK X.prog X.w X.K X.mg X.base k x ks gV sp) (hr : Room j X.A) (hk : k ≤ j) (hg : Gl X x) (hkw : PK X kws tk)
    (hall : (backToKw pos (keywordEach kws X.env)).all (·.1.isSome) = true := by rfl) (hks : (backToKw pos (keywordEach kws X.env)).filterMap (·.1) = ks := by rfl) (hdb : (x == ("__debug__" : Str)) = false := by decide)
    (hpl : ((backTo pos (starEach [] X.env)).any (·.1) || (backToKw pos (keywordEach kws X.env)).any (·.1.isNone)) = false := by rfl) :
    PE X (.Call (.Name x p) [] kws pos) (tCallN 0 ks.length sp gV E0 tNil tk) := by
  obtain ⟨f, fd, ps, g, F, hm, kp, b⟩ := c.ex
  refine ⟨fun pins s σ H Q I h => ?_⟩
  refine wpAny_Call_Name_kw (ld_glob I hg hm ?_ hdb)
  refine PySem.W.callWith_KW0 (h₀ := X.base) I.ok.mod.kin kp hall ?_ hpl
  refine thn (hkw.run pos pins s σ H _ I h) fun ws s2 ⟨zs, H2, I2, rz, l1, l2, q2⟩ => ⟨I2.kIn, ?_⟩
  rw [hks]
  exact run_fnN (us := []) (vs := []) F (hr.mono hk) b pass0 I2 .nil rz rfl l2 q2
/-- a constant of the module, a built-in class -/
theorem pe_gl {v : V} (hg : Gl X x) (h : ∃ u, X.mg x = some u ∧ RelV v u) (hd : (x == ("__debug__" : Str)) = false := by decide) : PE X (.Name x pos) (tC v) := by
  obtain ⟨u, h1, h2⟩ := h
  exact pe_glob hg h1 h2 hd
theorem pe_ty {n : String} (hg : Gl X x) (hm : X.mg x = none) (hv : bootBuiltins x = some (.type n)) (hn : x ≠ "__name__" := by decide) (hd : (x == ("__debug__" : Str)) = false := by decide) : PE X (.Name x pos) (tC (.ty n)) :=
  pe_bltn hg hm hv rfl hn hd
end

/-- a comprehension without a test -/
theorem yes_rd {σ : L2.St} {H : Hp} {A B : Hp → Prop} (h : A H) : tYes σ H fun b H3 => if b = true then A H3 else B H3 := by
  show if true = true then A H else B H
  rw [if_pos rfl]
  exact h
/-! ### rules with the written part named (within a comprehension) -/
section
variable {X : Cx} {K : PySem.W.Frag}
theorem lenK (hK : X.K = K := by rfl) : CallR X (.builtin "len") (fun xs H Q => ∃ p ys, xs = [.ref p] ∧ (SqL K H p ys ∨ SqT K H p ys) ∧ Q (.int ys.length) H) := by
  subst hK; exact call_len_seq
theorem isiK (hK : X.K = K := by rfl) : CallR X (.builtin "isinstance") (rIsi K) := by
  subst hK; exact call_isi
theorem ixTK (hK : X.K = K := by rfl) : IxR X (rIxT K) := by
  subst hK; exact ix_tup
theorem ixLK (hK : X.K = K := by rfl) : IxR X (rIxL K) := by
  subst hK; exact ix_list
theorem catK (hK : X.K = K := by rfl) : OpR X (binaryOp .Add) (rCatA K) := by
  subst hK; exact op_catA
theorem slTK (hK : X.K = K := by rfl) : SlR X (rSlA K) := by
  subst hK; exact sl_tupA
theorem slLK (hK : X.K = K := by rfl) : SlR X (rSlL K) := by
  subst hK; exact sl_list
end

/-! ### t[::-1], a tuple -/
section
variable {X : Cx} {prog : Program} {w : World} {A : Around} {E : Value → Shared → Prop} {s : Shared}
theorem rev_adjust (n : Nat) : Builtin.Slice.sliceAdjust none none (-1) (n : Int) = ((n : Int) - 1, -1) := by
  unfold Builtin.Slice.sliceAdjust
  simp
theorem rev_places (n : Nat) : Builtin.Slice.slicePlaces ((n : Int) - 1) (-1) (-1) = n := by
  unfold Builtin.Slice.slicePlaces
  have h1 : ¬ ((-1 : Int) > 0) := by decide
  simp only [h1, if_false]
  split
  · rw [show (- -1 : Int) = 1 by decide, Int.ediv_one]; omega
  · omega
theorem rev_applied {sl : Addr} {vl vu vs : Value} {n : Nat} {Q : Int × Int × Nat → Shared → Prop} (hs : s.heap.IsSliceOf sl vl vu vs) (pl : IsPart vl none) (pu : IsPart vu none) (ps : IsPart vs (some (-1)))
    (h : Q ((n : Int) - 1, -1, n) s) : wpAny (model prog w) A (Builtin.Slice.sliceApplied (.ref sl) (pure (n : Int))) Q E s := by
  obtain ⟨os, e1, e2, e3⟩ := id hs
  unfold Builtin.Slice.sliceApplied Builtin.Slice.sliceFields
  have go : wpAny (model prog w) A (Builtin.Slice.slicePartIndex vs) (fun o s' => o = some (-1) ∧ s' = s) E s := HT.slicePart_ ps ⟨rfl, rfl⟩
  refine wpAny_bind (wpAny_bind (wpAny_field e1 e3 (x := vl) rfl (wpAny_bind (wpAny_field e1 e3 (x := vu) rfl (wpAny_bind (wpAny_field e1 e3 (x := vs) rfl (wpAny_pure ?_)))))))
  refine wpAny_bind (thn go fun o s' ho => ?_)
  obtain ⟨rfl, rfl⟩ := ho
  show wpAny _ _ (if ((-1 : Int) == 0) = true then _ else _) _ _ _
  rw [if_neg (by decide)]
  refine wpAny_bind (HT.slicePart_ pl (wpAny_bind (HT.slicePart_ pu (wpAny_bind (wpAny_pure ?_)))))
  show wpAny _ _ (match Builtin.Slice.sliceAdjust none none (-1) (n : Int) with | (lo, hi) => pure (lo, (-1 : Int), Builtin.Slice.slicePlaces lo hi (-1))) _ _ _
  rw [rev_adjust n]
  show wpAny _ _ (pure ((n : Int) - 1, (-1 : Int), Builtin.Slice.slicePlaces ((n : Int) - 1) (-1) (-1))) _ _ _
  rw [rev_places]
  exact wpAny_pure h
theorem rev_pick (xs : Array Value) : ((List.range xs.size).filterMap fun (m : Nat) => xs[(((xs.size : Int) - 1) + (m : Int) * (-1)).toNat]?).toArray = xs.toList.reverse.toArray := by
  have e : ((List.range xs.size).filterMap fun (m : Nat) => xs[(((xs.size : Int) - 1) + (m : Int) * (-1)).toNat]?) = ((List.range xs.size).map fun k => xs.size - 1 - k).filterMap (xs[·]?) := by
    rw [List.filterMap_map]
    congr 1
    funext m
    show xs[(((xs.size : Int) - 1) + (m : Int) * (-1)).toNat]? = xs[xs.size - 1 - m]?
    have : (((xs.size : Int) - 1) + (m : Int) * (-1)).toNat = xs.size - 1 - m := by omega
    rw [this]
  rw [e, PySem.W.krv_range, List.filterMap_reverse, PySem.W.krv_all]
theorem getItem_rev {t sl : Addr} {items : Array Value} {vl vu vs : Value} {Q : Value → Shared → Prop} (ht : IsTup s.heap t items) (hs : s.heap.IsSliceOf sl vl vu vs) (pl : IsPart vl none) (pu : IsPart vu none) (ps : IsPart vs (some (-1)))
    (h : Q (.ref s.heap.objs.size) { s with heap := s.heap.push { cls := .type "tuple", data := .seq items.toList.reverse.toArray } }) (hz : items.size ≤ sizeLine) :
    wpAny (model prog w) A (getItem (.ref t) (.ref sl)) Q E s := by
  have hok : sizeOk (.seq items.toList.reverse.toArray) := by
    show items.toList.reverse.toArray.size ≤ sizeLine
    rw [List.size_toArray, List.length_reverse, Array.length_toList]
    exact hz
  obtain ⟨os, hos, hcs, hds⟩ := id hs
  have hT : s.TypeIs (.ref sl) "slice" := ⟨os, hos, hcs⟩
  unfold getItem
  try with_reducible refine wpAny_holding ?_
  first | refine wpAny_bind (wpAny_pure ?_) | skip
  refine wpAny_bind (wpAny_sequenceKey ht.typeIs (by decide) ?_)
  refine wpAny_bind (wpAny_callSpecial?_slot (name := Str.ofString "__getitem__") ht.typeIs PyProof.Rows.slot_tuple_getitem
    (wpAny_call_entry PyProof.Rows.slot_tuple_getitem ht.typeIs entry_tuple_getitem ?_ (args_tuple_getitem _ _)))
  show wpAny _ _ (Builtin.Tuple.tupleItemsOf (.ref t) >>= _) _ _ _
  refine wpAny_bind (tupleItemsOf_ ht (wpAny_bind (wpAny_typeOf hT ?_)))
  rw [if_pos (by decide)]
  refine wpAny_bind (rev_applied hs pl pu ps ?_)
  have hno : ¬ ((((items.size : Int) - 1) == 0 && (-1 : Int) == 1 && items.size == items.size) = true) := by simp
  show wpAny _ _ (if ((((items.size : Int) - 1) == 0 && (-1 : Int) == 1 && items.size == items.size) = true) then _ else _) _ _ _
  rw [if_neg hno, rev_pick]
  first
    | exact wpAny_bind (m := Builtin.Tuple.tupleExact _) (wpAny_newObj_type (wpAny_pure ⟨_, rfl, wpAny_pure h⟩) hok)
    | exact wpAny_bind (m := Builtin.Tuple.tupleExact _) (wpAny_newObj_type (wpAny_bind (wpAny_pure (wpAny_pure ⟨_, rfl, wpAny_pure h⟩))) hok)
    | exact wpAny_bind (wpAny_bind (m := Builtin.Tuple.tupleExact _) (wpAny_newObj_type (wpAny_pure (wpAny_pure ⟨_, rfl, wpAny_pure h⟩)) hok))
    | exact wpAny_bind (wpAny_bind (m := Builtin.Tuple.tupleExact _) (wpAny_newObj_type (wpAny_pure ⟨_, rfl, wpAny_pure h⟩) hok))
def tRevT (K : PySem.W.Frag) (te : TE) : TE := fun σ H Q => te σ H fun x H1 => ∃ a xs, x = .ref a ∧ SqT K H1 a xs ∧ ∀ p, H1 p = none → Q (.ref p) (upd H1 p (.tup xs.reverse))
theorem pe_revT {e : Expr} {te : TE} {k : Nat} {p1 p2 p3 pos : Pos} (he : PE X e te) : PE X (.Subscript e (.Slice none none (some (.UnaryOp .USub (.Constant (.int 1) k p1) p2)) p3) pos) (tRevT X.K te) := by
  refine ⟨fun pins s σ H Q I h => ?_⟩
  refine Subscript_ (thn (he.run pins s σ H _ I h) fun v s1 ⟨x, H1, I1, r1, q1⟩ => ?_)
  obtain ⟨a, xs, ex, hx, q⟩ := q1
  subst ex
  cases r1
  have hst : PO X (some (.UnaryOp .USub (.Constant (.int 1) k p1) p2)) (tPart (tUn (rU fun i => .int (-i)) (tC (.int 1)))) := po_some (pe_un un_neg pe_int)
  refine wpAny_Slice (thn (po_none.run pins s1 σ H1 (fun o H2 => o = none ∧ H2 = H1) I1 ⟨rfl, rfl⟩) fun vl s2 ⟨l, H2, I2, pl, el, e2⟩ => ?_)
  subst el e2
  refine thn (po_none.run pins s2 σ H2 (fun o H3 => o = none ∧ H3 = H2) I2 ⟨rfl, rfl⟩) fun vu s3 ⟨u, H3, I3, pu, eu, e3⟩ => ?_
  subst eu e3
  refine thn (hst.run pins s3 σ H3 (fun o H4 => o = some (-1) ∧ H4 = H3) I3 ⟨1, rfl, -1, rfl, rfl, rfl⟩) fun vs s4 ⟨o, H4, I4, ps, eo, e4⟩ => ?_
  subst eo e4
  have I5 : Inv X pins σ H4 { s4 with heap := s4.heap.push { cls := .type "slice", data := .fields #[vl, vu, vs] } } := I4.kept (t' := s4.toks) fun b ob q => Heap.get?_push_of_some _ q
  obtain ⟨its, r, ht, hz⟩ := I5.tuple hx
  have hlen := r.length
  refine tail_any (ops := [.ref a, .ref s4.heap.objs.size]) ht.typeIs (PyProof.Rows.slot_tuple_getitem.lookup) ?_ (by with_unfolding_all rfl)
  refine getItem_rev ht (Heap.IsSliceOf.new _ vl vu vs) pl pu ps ?_ (by rw [List.size_toArray]; omega)
  refine ⟨.ref _, _, I5.laid (t' := s4.toks) (o := .tup xs.reverse) (fun b ob q => Heap.get?_push_of_some _ q) (Nat.le_refl _) ?_, rfl, q _ (I5.hok.fresh (Nat.le_refl _))⟩
  exact ⟨by rw [List.length_reverse]; exact hz, its.reverse, r.reverse, _, Heap.get?_push_size _ rfl, rfl, 0, rfl⟩
end
end Pd

set_option maxHeartbeats 4000000
namespace Pd
open PySem PySem.Spec PyProof.Rows L2
/-! ### data: what a value stands for -/
inductive D where
  | non | bl (b : Bool) | int (i : Int) | str (s : Str) | oth (n : String) | tup (ds : List D)
mutual
inductive Tp (K : PySem.W.Frag) (H : Hp) : V → D → Prop
  | non : Tp K H .non .non
  | bl (b : Bool) : Tp K H (.bl b) (.bl b)
  | int (i : Int) : Tp K H (.int i) (.int i)
  | str (x : Str) : Tp K H (.str x) (.str x)
  | lst {a : Addr} {xs : List V} (h : H a = some (.lst xs)) : Tp K H (.ref a) (.oth "list")
  | dct {a : Addr} {kvs : List (Key × V)} (h : H a = some (.dK kvs)) : Tp K H (.ref a) (.oth "dict")
  | tup {a : Addr} {xs : List V} {ds : List D} (h : SqT K H a xs) (hs : TpAll K H xs ds) : Tp K H (.ref a) (.tup ds)
inductive TpAll (K : PySem.W.Frag) (H : Hp) : List V → List D → Prop
  | nil : TpAll K H [] []
  | cons {v : V} {vs : List V} {d : D} {ds : List D} (h : Tp K H v d) (hs : TpAll K H vs ds) : TpAll K H (v :: vs) (d :: ds)
end
/-- what was there is there, of its kind; tuples as they were -/
structure Le (H H' : Hp) : Prop where
  tup : ∀ a xs, H a = some (.tup xs) → H' a = some (.tup xs)
  lst : ∀ a xs, H a = some (.lst xs) → ∃ ys, H' a = some (.lst ys)
  dct : ∀ a d, H a = some (.dK d) → ∃ d', H' a = some (.dK d')
  frz : ∀ a o u, H a = some (.frz o u) → H' a = some (.frz o u)
section
variable {K : PySem.W.Frag} {H H1 H2 H' : Hp} {h : Addr}
theorem Le.refl (H : Hp) : Le H H := ⟨fun _ _ e => e, fun _ xs e => ⟨xs, e⟩, fun _ d e => ⟨d, e⟩, fun _ _ _ e => e⟩
theorem Le.trans (a : Le H H1) (b : Le H1 H2) : Le H H2 :=
  ⟨fun c xs e => b.tup c xs (a.tup c xs e), fun c xs e => let ⟨ys, q⟩ := a.lst c xs e; b.lst c ys q, fun c xs e => let ⟨ys, q⟩ := a.dct c xs e; b.dct c ys q, fun c o u e => b.frz c o u (a.frz c o u e)⟩
theorem Le.of (s : Same H H') : Le H H' := ⟨fun c xs e => s c _ e, fun c xs e => ⟨xs, s c _ e⟩, fun c xs e => ⟨xs, s c _ e⟩, fun c o u e => s c _ e⟩
theorem Same.new {p : Addr} {o : HO} (n : H p = none) : Same H (upd H p o) := fun b u e => by
  rw [upd_ne (ne_of_none e n)]
  exact e
theorem Le.new {p : Addr} {o : HO} (n : H p = none) : Le H (upd H p o) := .of (Same.new n)
/-- a list changes -/
theorem Le.put {p : Addr} {xs ys : List V} (e : H p = some (.lst xs)) : Le H (upd H p (.lst ys)) := by
  constructor
  · intro a zs q
    rw [upd_ne (ne_of q e (by intro z; cases z))]; exact q
  · intro a zs q
    by_cases ha : a = p
    · subst ha; exact ⟨ys, upd_same⟩
    · exact ⟨zs, by rw [upd_ne ha]; exact q⟩
  · intro a d q
    exact ⟨d, by rw [upd_ne (ne_of q e (by intro z; cases z))]; exact q⟩
  · intro a o u q
    rw [upd_ne (ne_of q e (by intro z; cases z))]; exact q
theorem Le.sqT {a : Addr} {xs : List V} (l : Le H H') (q : SqT K H a xs) : SqT K H' a xs := by
  rcases q with (q | ⟨o, q⟩) | q
  · exact .inl (.inl (l.tup _ _ q))
  · exact .inl (.inr ⟨o, l.frz _ _ _ q⟩)
  · exact .inr q
mutual
theorem Tp.mono (l : Le H H') : ∀ {v : V} {d : D}, Tp K H v d → Tp K H' v d
  | _, _, .non => .non
  | _, _, .bl b => .bl b
  | _, _, .int i => .int i
  | _, _, .str x => .str x
  | _, _, .lst e => let ⟨_, q⟩ := l.lst _ _ e; .lst q
  | _, _, .dct e => let ⟨_, q⟩ := l.dct _ _ e; .dct q
  | _, _, .tup e es => .tup (l.sqT e) (TpAll.mono l es)
theorem TpAll.mono (l : Le H H') : ∀ {vs : List V} {ds : List D}, TpAll K H vs ds → TpAll K H' vs ds
  | _, _, .nil => .nil
  | _, _, .cons e es => .cons (Tp.mono l e) (TpAll.mono l es)
end
theorem TpAll.len : ∀ {vs : List V} {ds : List D}, TpAll K H vs ds → vs.length = ds.length
  | _, _, .nil => rfl
  | _, _, .cons _ es => congrArg Nat.succ (TpAll.len es)
theorem TpAll.get : ∀ {vs : List V} {ds : List D} {i : Nat} {v : V}, TpAll K H vs ds → vs[i]? = some v → ∃ d, ds[i]? = some d ∧ Tp K H v d
  | _, _, _, _, .nil, e => by simp at e
  | _, _, 0, _, .cons h _, e => by simp at e; subst e; exact ⟨_, rfl, h⟩
  | _, _, i + 1, v, .cons _ t, e => by
    obtain ⟨d, h1, h2⟩ := TpAll.get (i := i) (v := v) t (by simpa using e)
    exact ⟨d, by simpa using h1, h2⟩
theorem TpAll.getD : ∀ {vs : List V} {ds : List D} {i : Nat} {d : D}, TpAll K H vs ds → ds[i]? = some d → ∃ v, vs[i]? = some v ∧ Tp K H v d
  | _, _, _, _, .nil, e => by simp at e
  | _, _, 0, _, .cons h _, e => by simp at e; subst e; exact ⟨_, rfl, h⟩
  | _, _, i + 1, d, .cons _ t, e => by
    obtain ⟨v, h1, h2⟩ := TpAll.getD (i := i) (d := d) t (by simpa using e)
    exact ⟨v, by simpa using h1, h2⟩
theorem TpAll.append : ∀ {vs ws : List V} {ds es : List D}, TpAll K H vs ds → TpAll K H ws es → TpAll K H (vs ++ ws) (ds ++ es)
  | _, _, _, _, .nil, s => s
  | _, _, _, _, .cons h t, s => .cons h (TpAll.append t s)
theorem TpAll.drop : ∀ (n : Nat) {vs : List V} {ds : List D}, TpAll K H vs ds → TpAll K H (vs.drop n) (ds.drop n)
  | 0, _, _, t => t
  | _ + 1, _, _, .nil => .nil
  | n + 1, _, _, .cons _ t => TpAll.drop n t
theorem TpAll.take : ∀ (n : Nat) {vs : List V} {ds : List D}, TpAll K H vs ds → TpAll K H (vs.take n) (ds.take n)
  | 0, _, _, _ => .nil
  | _ + 1, _, _, .nil => .nil
  | n + 1, _, _, .cons h t => .cons h (TpAll.take n t)
theorem TpAll.rev {vs : List V} {ds : List D} (t : TpAll K H vs ds) : TpAll K H vs.reverse ds.reverse := by
  induction vs generalizing ds with
  | nil => cases t; exact .nil
  | cons v vs ih =>
    cases t with
    | cons h t =>
      rw [List.reverse_cons, List.reverse_cons]
      exact (ih t).append (.cons h .nil)
theorem TpAll.rep {vs : List V} {ds : List D} (t : TpAll K H vs ds) : ∀ n : Nat, TpAll K H (List.replicate n vs).flatten (List.replicate n ds).flatten
  | 0 => .nil
  | n + 1 => by
    rw [List.replicate_succ, List.replicate_succ, List.flatten_cons, List.flatten_cons]
    exact t.append (TpAll.rep t n)
/-! ### the kinds of a datum -/
theorem SqT.ty {a : Addr} {xs : List V} (q : SqT K H a xs) : TyX K H (.ref a) (.type "tuple") := by
  rcases q with (q | ⟨o, q⟩) | q
  · exact .base (.tup q)
  · exact .fTuple q
  · obtain ⟨o, n, its, e, c, _⟩ := q
    exact .kTuple e c
end
end Pd

set_option maxHeartbeats 4000000
namespace Pd
open PySem PySem.Spec PyProof.Rows L2
/-! ### the hand -/
def HandAt (H : Hp) (h a : Addr) : Prop := ∃ (ns : List Int) (i c m k : Int), H h = some (.lst [.ref a, .int i, .int c, .int m, .int k]) ∧ H a = some (.lst (ns.map V.int)) ∧ a ≠ h ∧ 0 ≤ i ∧ 0 ≤ c ∧ 0 ≤ m ∧ m < 2147483399
def HandOk (H : Hp) (h : Addr) : Prop := ∃ a, HandAt H h a
/-- of what stood in H the hand alone changed -/
structure Go (h : Addr) (H H' : Hp) : Prop where
  hat : ∀ a, HandAt H h a → HandAt H' h a
  fr : ∀ b o, b ≠ h → H b = some o → H' b = some o
section
variable {K : PySem.W.Frag} {H H1 H2 H' : Hp} {h : Addr}
theorem HandOk.at (k : HandOk H h) : ∃ xs, H h = some (.lst xs) := let ⟨_, _, _, _, _, _, e, _⟩ := k; ⟨_, e⟩
theorem Go.ok (g : Go h H H') (k : HandOk H h) : HandOk H' h := let ⟨a, k⟩ := k; ⟨a, g.hat a k⟩
theorem Go.refl : Go h H H := ⟨fun _ k => k, fun _ _ _ e => e⟩
theorem Go.trans (a : Go h H H1) (b : Go h H1 H2) : Go h H H2 := ⟨fun c k => b.hat c (a.hat c k), fun c o n e => b.fr c o n (a.fr c o n e)⟩
theorem Go.le (g : Go h H H') (k : HandOk H h) : Le H H' := by
  obtain ⟨xs, e⟩ := k.at
  obtain ⟨ys, e'⟩ := (g.ok k).at
  refine ⟨fun a zs q => g.fr a _ (ne_of q e (by intro z; cases z)) q, fun a zs q => ?_, fun a d q => ⟨d, g.fr a _ (ne_of q e (by intro z; cases z)) q⟩, fun a o u q => g.fr a _ (ne_of q e (by intro z; cases z)) q⟩
  by_cases ha : a = h
  · subst ha; exact ⟨ys, e'⟩
  · exact ⟨zs, g.fr a _ ha q⟩
theorem Go.same (s : Same H H') : Go h H H' := ⟨fun a ⟨ns, i, c, m, k, e1, e2, r⟩ => ⟨ns, i, c, m, k, s _ _ e1, s _ _ e2, r⟩, fun b o _ e => s b o e⟩
theorem HandOk.same (k : HandOk H h) (s : Same H H') : HandOk H' h := (Go.same s).ok k
theorem Go.new {p : Addr} {o : HO} (n : H p = none) : Go h H (upd H p o) := .same (Same.new n)
/-- what is new changes -/
theorem Go.put {p : Addr} {o : HO} (g : Go h H H') (n : H p = none) : Go h H (upd H' p o) := by
  refine ⟨fun a k => ?_, fun b u hb e => by rw [upd_ne (ne_of_none e n)]; exact g.fr b u hb e⟩
  obtain ⟨ns, i, c, m, k, e1, e2, r⟩ := k
  obtain ⟨ns', i', c', m', k', e1', e2', r'⟩ := g.hat a ⟨ns, i, c, m, k, e1, e2, r⟩
  exact ⟨ns', i', c', m', k', by rw [upd_ne (ne_of_none e1 n)]; exact e1', by rw [upd_ne (ne_of_none e2 n)]; exact e2', r'⟩
theorem Go.free {p : Addr} (g : Go h H H') (k : HandOk H h) (n : H' p = none) : H p = none := by
  cases e : H p with
  | none => rfl
  | some o =>
    by_cases hp : p = h
    · subst hp
      obtain ⟨ys, e'⟩ := (g.ok k).at
      rw [n] at e'; cases e'
    · rw [g.fr p o hp e] at n; cases n
theorem HandOk.ne_new {p : Addr} (k : HandOk H h) (n : H p = none) : p ≠ h := by
  obtain ⟨xs, e⟩ := k.at
  exact (ne_of_none e n).symm
/-- the promise of a draw, sizes up to b -/
def spDraw (b : Int) : Sp := fun vs H Q _ => ∃ (h : Addr) (n : Int), vs = [.ref h, .int n] ∧ HandOk H h ∧ 1 ≤ n ∧ n ≤ b ∧ ∀ v H', Go h H H' → 0 ≤ v → v < n → Q (.int v) H'
/-- the hand made -/
def spHand (K : PySem.W.Frag) : Sp := fun vs H Q _ => ∃ (a : Addr) (ns : List Int), vs = [.ref a] ∧ SqL K H a (ns.map V.int) ∧ ∀ h H', Same H H' → H h = none → HandOk H' h → Q (.ref h) H'
/-- the hand's own row is set -/
theorem hand_put {a : Addr} {ns : List Int} {ys : List V} {i c m k : Int} (e0 : H h = some (.lst (.ref a :: ys))) (e1 : H a = some (.lst (ns.map V.int))) (hn : a ≠ h) (h1 : 0 ≤ i) (h2 : 0 ≤ c) (h3 : 0 ≤ m) (h4 : m < 2147483399) :
    Go h H (upd H h (.lst [.ref a, .int i, .int c, .int m, .int k])) := by
  refine ⟨fun b kb => ?_, fun b o hb e => by rw [upd_ne hb]; exact e⟩
  obtain ⟨ns', i', c', m', k', q1, q2, _⟩ := kb
  rw [e0] at q1
  have : a = b := by
    injection q1 with z; injection z with z; injection z with z _; injection z
  subst this
  exact ⟨ns, i, c, m, k, upd_same, by rw [upd_ne hn]; exact e1, hn, h1, h2, h3, h4⟩
end
end Pd

set_option maxHeartbeats 4000000
namespace Pd
open PySem PySem.Spec PyProof.Rows L2
/-! ### kinds of data, isinstance -/
def D.ty : D → String
  | .non => "NoneType" | .bl _ => "bool" | .int _ => "int" | .str _ => "str" | .oth n => n | .tup _ => "tuple"
def D.isTup : D → Bool
  | .tup _ => true
  | _ => false
def D.isNum : D → Bool
  | .int _ => true
  | .bl _ => true
  | _ => false
def D.isBool : D → Bool
  | .bl _ => true
  | _ => false
section
variable {K : PySem.W.Frag} {H H' : Hp} {v : V} {d : D} {Q : VK}
theorem Tp.ty (t : Tp K H v d) : TyX K H v (.type d.ty) := by
  cases t with
  | non => exact .base .non
  | bl b => exact .base (.bl b)
  | int i => exact .base (.int i)
  | str x => exact .base (.str x)
  | lst h => exact .base (.lst h)
  | dct h => exact .base (.dK h)
  | tup h hs => exact SqT.ty h
theorem Tp.kTup (t : Tp K H v d) : PySem.W.kitOne K (.type d.ty) (.type "tuple") = some d.isTup := by
  cases t with
  | non => exact kit_ty (by show kitB "NoneType" "tuple" = some false; decide +kernel)
  | bl b => exact kit_ty (by show kitB "bool" "tuple" = some false; decide +kernel)
  | int i => exact kit_ty (by show kitB "int" "tuple" = some false; decide +kernel)
  | str x => exact kit_ty (by show kitB "str" "tuple" = some false; decide +kernel)
  | lst h => exact kit_ty (by show kitB "list" "tuple" = some false; decide +kernel)
  | dct h => exact kit_ty (by show kitB "dict" "tuple" = some false; decide +kernel)
  | tup h hs => exact kit_ty (by show kitB "tuple" "tuple" = some true; decide +kernel)
theorem Tp.kInt (t : Tp K H v d) : PySem.W.kitOne K (.type d.ty) (.type "int") = some d.isNum := by
  cases t with
  | non => exact kit_ty (by show kitB "NoneType" "int" = some false; decide +kernel)
  | bl b => exact kit_ty (by show kitB "bool" "int" = some true; decide +kernel)
  | int i => exact kit_ty (by show kitB "int" "int" = some true; decide +kernel)
  | str x => exact kit_ty (by show kitB "str" "int" = some false; decide +kernel)
  | lst h => exact kit_ty (by show kitB "list" "int" = some false; decide +kernel)
  | dct h => exact kit_ty (by show kitB "dict" "int" = some false; decide +kernel)
  | tup h hs => exact kit_ty (by show kitB "tuple" "int" = some false; decide +kernel)
theorem Tp.kBool (t : Tp K H v d) : PySem.W.kitOne K (.type d.ty) (.type "bool") = some d.isBool := by
  cases t with
  | non => exact kit_ty (by show kitB "NoneType" "bool" = some false; decide +kernel)
  | bl b => exact kit_ty (by show kitB "bool" "bool" = some true; decide +kernel)
  | int i => exact kit_ty (by show kitB "int" "bool" = some false; decide +kernel)
  | str x => exact kit_ty (by show kitB "str" "bool" = some false; decide +kernel)
  | lst h => exact kit_ty (by show kitB "list" "bool" = some false; decide +kernel)
  | dct h => exact kit_ty (by show kitB "dict" "bool" = some false; decide +kernel)
  | tup h hs => exact kit_ty (by show kitB "tuple" "bool" = some false; decide +kernel)
theorem Tp.tupOf (t : Tp K H v d) (h : d.isTup = true) : ∃ a xs ds, v = .ref a ∧ d = .tup ds ∧ SqT K H a xs ∧ TpAll K H xs ds := by
  cases t with
  | tup h1 hs => exact ⟨_, _, _, rfl, rfl, h1, hs⟩
  | _ => cases h
theorem Tp.intOf (t : Tp K H v d) (h : d.isNum = true) (h2 : d.isBool = false) : ∃ i, v = .int i ∧ d = .int i := by
  cases t with
  | int i => exact ⟨i, rfl, rfl⟩
  | bl b => cases h2
  | _ => cases h
/-- a <= b <= c as a test -/
theorem chain_le {i j k : Int} {Q' : Bool → Hp → Prop} {tc : TE} {σ : L2.St} (hc : ∀ Q2 : VK, Q2 (.int k) H → tc σ H Q2) (q : Q' (decide (i ≤ j) && decide (j ≤ k)) H) :
    ∃ k1, V.bl (decide (i ≤ j)) = .bl k1 ∧ (if k1 = true then tc σ H fun w' H4 => (rI0 fun i j => .bl (decide (i ≤ j))) (.int j) w' H4 (fun (x : V) H' => ∃ k, x = V.bl k ∧ Q' k H') else (fun (x : V) H' => ∃ k, x = V.bl k ∧ Q' k H') (.bl false) H) := by
  refine ⟨_, rfl, ?_⟩
  by_cases h : i ≤ j
  · rw [decide_eq_true h] at q ⊢
    rw [if_pos rfl]
    exact hc _ ⟨j, k, rfl, rfl, _, rfl, q⟩
  · rw [decide_eq_false h] at q ⊢
    rw [if_neg Bool.false_ne_true]
    exact ⟨_, rfl, q⟩
/-- the same as a value -/
theorem chain_leV {i j k : Int} {Q' : VK} {tc : TE} {σ : L2.St} (hc : ∀ Q2 : VK, Q2 (.int k) H → tc σ H Q2) (q : Q' (.bl (decide (i ≤ j) && decide (j ≤ k))) H) :
    ∃ k1, V.bl (decide (i ≤ j)) = .bl k1 ∧ (if k1 = true then tc σ H fun w' H4 => (rI0 fun i j => .bl (decide (i ≤ j))) (.int j) w' H4 Q' else Q' (.bl false) H) := by
  refine ⟨_, rfl, ?_⟩
  by_cases h : i ≤ j
  · rw [decide_eq_true h] at q ⊢
    rw [if_pos rfl]
    exact hc _ ⟨j, k, rfl, rfl, q⟩
  · rw [decide_eq_false h] at q ⊢
    rw [if_neg Bool.false_ne_true]
    exact q
end
/-! ### webs -/
def isInt (lo hi : Int) : D → Bool
  | .int i => decide (lo ≤ i) && decide (i ≤ hi)
  | _ => false
def isMove (many : Int) : D → Bool
  | .tup [a, b] => isInt (-1000000) 1000000 a && isInt 0 (many - 1) b
  | _ => false
def isNode (many : Int) : D → Bool
  | .tup ds => (decide ((1 : Int) ≤ ds.length) && decide ((ds.length : Int) ≤ 12)) && ds.all (isMove many)
  | _ => false
def isWeb : D → Bool
  | .tup ds => (decide ((1 : Int) ≤ ds.length) && decide ((ds.length : Int) ≤ 120)) && ds.all (isNode ds.length)
  | _ => false
theorem isMove_len {many : Int} {es : List D} (h : es.length ≠ 2) : isMove many (.tup es) = false := by
  match es, h with
  | [], _ => rfl
  | [_], _ => rfl
  | [_, _], h => exact absurd rfl h
  | _ :: _ :: _ :: _, _ => rfl
theorem isMove_tup {many : Int} {d : D} (h : d.isTup = false) : isMove many d = false := by
  cases d with
  | tup => cases h
  | _ => rfl
theorem isNode_tup {many : Int} {d : D} (h : d.isTup = false) : isNode many d = false := by
  cases d with
  | tup => cases h
  | _ => rfl
theorem isWeb_tup {d : D} (h : d.isTup = false) : isWeb d = false := by
  cases d with
  | tup => cases h
  | _ => rfl
theorem isInt_num {lo hi : Int} {d : D} (h : d.isNum = false) : isInt lo hi d = false := by
  cases d with
  | int => cases h
  | _ => rfl
theorem isInt_bool {lo hi : Int} {d : D} (h : d.isBool = true) : isInt lo hi d = false := by
  cases d with
  | int => cases h
  | _ => rfl
theorem all_not {α : Type} {p : α → Bool} {l : List α} {i : Nat} {x : α} (h : l[i]? = some x) (hx : p x = false) : l.all p = false := by
  rw [List.all_eq_false]
  exact ⟨x, List.mem_of_getElem? h, by rw [hx]; exact Bool.false_ne_true⟩
theorem all_take {α : Type} {p : α → Bool} {l : List α} {i : Nat} {x : α} (h : l[i]? = some x) (ha : (l.take i).all p = true) (hx : p x = true) : (l.take (i + 1)).all p = true := by
  rw [List.take_add_one, h, List.all_append, ha]
  simp [hx]
def spIsInteger (K : PySem.W.Frag) : Sp := fun vs H Q _ => ∃ (v : V) (lo hi : Int) (d : D), vs = [v, .int lo, .int hi] ∧ Tp K H v d ∧ Q (.bl (isInt lo hi d)) H
def spIsNode (K : PySem.W.Frag) : Sp := fun vs H Q _ => ∃ (v : V) (many : Int) (d : D), vs = [v, .int many] ∧ Tp K H v d ∧ Q (.bl (isNode many d)) H
def spIsWeb (K : PySem.W.Frag) : Sp := fun vs H Q _ => ∃ (v : V) (d : D), vs = [v] ∧ Tp K H v d ∧ ∀ H', Same H H' → Q (.bl (isWeb d)) H'
end Pd

set_option maxHeartbeats 4000000
namespace Pd
open PySem PySem.Spec PyProof.Rows L2
/-! ### a right web, by its numbers -/
abbrev Web := List (List (Int × Int))
def moveD (m : Int × Int) : D := .tup [.int m.1, .int m.2]
def nodeD (nd : List (Int × Int)) : D := .tup (nd.map moveD)
def webD (w : Web) : D := .tup (w.map nodeD)
def OkMove (n : Int) (m : Int × Int) : Prop := -1000000 ≤ m.1 ∧ m.1 ≤ 1000000 ∧ 0 ≤ m.2 ∧ m.2 < n
def OkNode (n : Int) (nd : List (Int × Int)) : Prop := 1 ≤ nd.length ∧ nd.length ≤ 12 ∧ ∀ m ∈ nd, OkMove n m
def OkWeb (w : Web) : Prop := 1 ≤ w.length ∧ w.length ≤ 120 ∧ ∀ nd ∈ w, OkNode w.length nd
theorem isMove_ok {n : Int} {m : Int × Int} (h : OkMove n m) : isMove n (moveD m) = true := by
  obtain ⟨h1, h2, h3, h4⟩ := h
  show ((decide (-1000000 ≤ m.1) && decide (m.1 ≤ 1000000)) && (decide (0 ≤ m.2) && decide (m.2 ≤ n - 1))) = true
  rw [decide_eq_true h1, decide_eq_true h2, decide_eq_true h3, decide_eq_true (show m.2 ≤ n - 1 by omega)]
  rfl
theorem isNode_ok {n : Int} {nd : List (Int × Int)} (h : OkNode n nd) : isNode n (nodeD nd) = true := by
  obtain ⟨h1, h2, h3⟩ := h
  show ((decide ((1 : Int) ≤ (nd.map moveD).length) && decide (((nd.map moveD).length : Int) ≤ 12)) && (nd.map moveD).all (isMove n)) = true
  rw [List.length_map, decide_eq_true (show (1 : Int) ≤ nd.length by omega), decide_eq_true (show (nd.length : Int) ≤ 12 by omega), Bool.true_and, Bool.true_and, List.all_eq_true]
  intro x hx
  obtain ⟨m, hm, rfl⟩ := List.mem_map.mp hx
  exact isMove_ok (h3 m hm)
theorem isWeb_ok {w : Web} (h : OkWeb w) : isWeb (webD w) = true := by
  obtain ⟨h1, h2, h3⟩ := h
  show ((decide ((1 : Int) ≤ (w.map nodeD).length) && decide (((w.map nodeD).length : Int) ≤ 120)) && (w.map nodeD).all (isNode (w.map nodeD).length)) = true
  rw [List.length_map, decide_eq_true (show (1 : Int) ≤ w.length by omega), decide_eq_true (show (w.length : Int) ≤ 120 by omega), Bool.true_and, Bool.true_and, List.all_eq_true]
  intro x hx
  obtain ⟨m, hm, rfl⟩ := List.mem_map.mp hx
  exact isNode_ok (h3 m hm)
/-- an item picked by a bounded number -/
theorem pick {α : Type} {xs : List α} {v : Int} (h0 : 0 ≤ v) (h1 : v < xs.length) : ∃ x, atI xs v = some x ∧ x ∈ xs := by
  have hj : v.toNat < xs.length := by omega
  refine ⟨xs[v.toNat], ?_, List.getElem_mem hj⟩
  have e : v = ((v.toNat : Nat) : Int) := by omega
  have z := atI_nat (xs := xs) (j := v.toNat) (List.getElem?_eq_getElem hj)
  rw [← e] at z
  exact z
theorem pickI {α : Type} {xs : List α} {v : Int} (h0 : 0 ≤ v) (h1 : v < xs.length) : ∃ x, atI xs v = some x ∧ xs[v.toNat]? = some x := by
  have hj : v.toNat < xs.length := by omega
  refine ⟨xs[v.toNat], ?_, List.getElem?_eq_getElem hj⟩
  have e : v = ((v.toNat : Nat) : Int) := by omega
  have z := atI_nat (xs := xs) (j := v.toNat) (List.getElem?_eq_getElem hj)
  rw [← e] at z
  exact z
def spWeb (K : PySem.W.Frag) : Sp := fun vs H Q _ => ∃ (h : Addr) (most : Int), vs = [.ref h, .int most] ∧ HandOk H h ∧ 1 ≤ most ∧ most ≤ 100 ∧ ∀ v H' w, Go h H H' → Tp K H' v (webD w) → OkWeb w → (w.length : Int) ≤ most → Q v H'
end Pd

set_option maxHeartbeats 4000000
namespace Pd
open PySem PySem.Spec PyProof.Rows L2
/-! ### readings, one step each (so that the kernel meets like heads) -/
section
variable {σ : L2.St} {H : Hp} {Q : VK} {D : Ends} {te ta tb : TE} {t tr : TA} {g : TG} {u z : TS} {r : R2} {v : V}
theorem r_asg (h : te σ H fun x H1 => g x σ H1 (u D)) : tSeq (tAsg te g) u D σ H := h
theorem r_seq (h : z { D with nx := u D } σ H) : tSeq z u D σ H := h
theorem r_lst (h : t σ H fun xs H1 => xs.length ≤ sizeLine ∧ ∀ p, H1 p = none → Q (.ref p) (upd H1 p (.lst xs))) : tLst t σ H Q := h
theorem r_tup (h : t σ H fun xs H1 => xs.length ≤ sizeLine ∧ ∀ p, H1 p = none → Q (.ref p) (upd H1 p (.tup xs))) : tTup t σ H Q := h
theorem r_op (h : ta σ H fun x H1 => tb σ H1 fun y H2 => r x y H2 Q) : tOp r ta tb σ H Q := h
theorem r_var {i : Nat} (e : σ[i]? = some (some v)) (h : Q v H) : tVar i σ H Q := ⟨v, e, h⟩
theorem r_cons {Q : List V → Hp → Prop} (h : te σ H fun x H1 => tr σ H1 fun xs H2 => Q (x :: xs) H2) : tCons te tr σ H Q := h
theorem r_ret (h : te σ H D.rt) : tRet te D σ H := h
theorem r_cb {rr : List V → Hp → VK → Prop} (h : t σ H fun vs H1 => rr vs H1 Q) : tCB rr t σ H Q := h
theorem r_call {sp : Sp} {dvs : List V} {E : XK} (h : t σ H fun vs H1 => sp (vs ++ dvs) H1 Q E) : tCall sp dvs E t σ H Q := h
end
/-! ### expressions that make data: an int without a change of the heap; some datum, some data -/
theorem szl {n : Nat} (h : n ≤ 100000) : n ≤ sizeLine := Nat.le_trans h (by decide)
def EvI (te : TE) (σ : L2.St) (i : Int) : Prop := ∀ (H : Hp) (Q : VK), Q (.int i) H → te σ H Q
def EvA (K : PySem.W.Frag) (te : TE) (σ : L2.St) : Prop := ∀ (H : Hp) (Q : VK), (∀ v H' d, Same H H' → Tp K H' v d → Q v H') → te σ H Q
def EvAs (K : PySem.W.Frag) (n : Nat) (ta : TA) (σ : L2.St) : Prop := ∀ (H : Hp) (Q : List V → Hp → Prop), (∀ vs H' ds, Same H H' → TpAll K H' vs ds → vs.length = n → Q vs H') → ta σ H Q
section
variable {K : PySem.W.Frag} {σ : L2.St} {te ta tb : TE} {t : TA} {i j : Int} {n : Nat}
theorem ei_c : EvI (tC (.int i)) σ i := fun _ _ q => q
theorem ei_var {m : Nat} (h : σ[m]? = some (some (.int i))) : EvI (tVar m) σ i := fun _ _ q => ⟨_, h, q⟩
theorem ei_neg (h : EvI te σ i) : EvI (tUn (rU fun i => .int (-i)) te) σ (-i) := fun H Q q => h H _ ⟨i, rfl, q⟩
theorem ei_op0 {g : Int → Int → Int} (h1 : EvI ta σ i) (h2 : EvI tb σ j) : EvI (tOp (rI0 fun i j => .int (g i j)) ta tb) σ (g i j) := fun H Q q => h1 H _ (h2 H _ ⟨i, j, rfl, rfl, q⟩)
theorem ei_op {C : Int → Int → Prop} {g : Int → Int → Int} (h1 : EvI ta σ i) (h2 : EvI tb σ j) (hc : C i j) : EvI (tOp (rI C fun i j => .int (g i j)) ta tb) σ (g i j) := fun H Q q => h1 H _ (h2 H _ ⟨i, j, rfl, rfl, hc, q⟩)
theorem ea_int (h : EvI te σ i) : EvA K te σ := fun H Q q => h H Q (q _ H _ (Same.refl H) (.int i))
theorem ea_non : EvA K (tC .non) σ := fun H Q q => q _ H _ (Same.refl H) .non
theorem ea_bl {b : Bool} : EvA K (tC (.bl b)) σ := fun H Q q => q _ H _ (Same.refl H) (.bl b)
theorem ea_str {x : Str} : EvA K (tC (.str x)) σ := fun H Q q => q _ H _ (Same.refl H) (.str x)
theorem ea_tup (h : EvAs K n t σ) (hn : n ≤ 100000) : EvA K (tTup t) σ := fun H Q q => h H _ fun vs H' ds s ts l => ⟨szl (by omega), fun p hp => q _ _ _ (s.trans (Same.new hp)) (.tup (SqT.of upd_same) (ts.mono (Le.new hp)))⟩
theorem ea_lst (h : EvAs K n t σ) (hn : n ≤ 100000) : EvA K (tLst t) σ := fun H Q q => h H _ fun vs H' ds s ts l => ⟨szl (by omega), fun p hp => q _ _ _ (s.trans (Same.new hp)) (.lst upd_same)⟩
theorem eas_nil : EvAs K 0 tNil σ := fun H Q q => q _ H _ (Same.refl H) .nil rfl
theorem eas_cons (h1 : EvA K te σ) (h2 : EvAs K n t σ) : EvAs K (n + 1) (tCons te t) σ := fun H Q q =>
  h1 H _ fun v H1 d s1 t1 => h2 H1 _ fun vs H2 ds s2 ts l => q _ _ _ (s1.trans s2) (.cons (t1.mono (Le.of s2)) ts) (congrArg Nat.succ l)
end
end Pd

set_option maxHeartbeats 4000000
namespace Pd
open PySem PySem.Spec PyProof.Rows L2
/-! ### expressions that make a tuple of data, of at most n items, from what stands in H -/
def EvT (K : PySem.W.Frag) (lo hi : Nat) (te : TE) (σ : L2.St) (H : Hp) : Prop := ∀ H1, Same H H1 → ∀ Q : VK, (∀ v H2 ds, Same H1 H2 → Tp K H2 v (.tup ds) → lo ≤ ds.length → ds.length ≤ hi → Q v H2) → te σ H1 Q
def EvD (K : PySem.W.Frag) (te : TE) (σ : L2.St) (H : Hp) : Prop := ∀ H1, Same H H1 → ∀ Q : VK, (∀ v H2 d, Same H1 H2 → Tp K H2 v d → Q v H2) → te σ H1 Q
def EvOp (to : TO) (σ : L2.St) : Prop := ∀ (H : Hp) (Q : Option Int → Hp → Prop), (∀ o, Q o H) → to σ H Q
section
variable {K : PySem.W.Frag} {σ : L2.St} {te ta tb : TE} {t : TA} {tl th : TO} {H : Hp} {n m lo hi : Nat} {v : V} {d : D} {ds : List D} {i : Int}
theorem eo_no : EvOp tNoPart σ := fun _ _ q => q none
theorem eo_int (h : EvI te σ i) : EvOp (tPart te) σ := fun H Q q => h H _ ⟨i, rfl, q _⟩
theorem ed_var {j : Nat} (h : σ[j]? = some (some v)) (t : Tp K H v d) : EvD K (tVar j) σ H := fun H1 s Q q => ⟨v, h, q v H1 d (Same.refl _) (t.mono (Le.of s))⟩
theorem et_var {j : Nat} (h : σ[j]? = some (some v)) (t : Tp K H v (.tup ds)) (h1 : lo ≤ ds.length) (h2 : ds.length ≤ hi) : EvT K lo hi (tVar j) σ H := fun H1 s Q q => ⟨v, h, q v H1 ds (Same.refl _) (t.mono (Le.of s)) h1 h2⟩
theorem Tp.sq {H : Hp} {v : V} {ds : List D} (t : Tp K H v (.tup ds)) : ∃ a xs, v = .ref a ∧ SqT K H a xs ∧ TpAll K H xs ds := by
  cases t with
  | tup h hs => exact ⟨_, _, rfl, h, hs⟩
theorem et_sl (h : EvT K lo hi te σ H) (hl : EvOp tl σ) (hh : EvOp th σ) : EvT K 0 hi (tSl (rSlA K) te tl th) σ H := fun H1 s Q q => by
  refine h H1 s _ fun v H2 ds s2 tp h1 h2 => hl H2 _ fun o1 => hh H2 _ fun o2 => ?_
  obtain ⟨a, xs, rfl, hS, hs⟩ := tp.sq
  refine ⟨a, xs, rfl, hS, fun _ => q _ _ ds s2 tp (Nat.zero_le _) h2, fun _ p hp => ?_⟩
  refine q _ _ ((ds.drop (HT.sIx xs.length 0 o1)).take (HT.sIx xs.length xs.length o2 - HT.sIx xs.length 0 o1)) (s2.trans (Same.new hp)) (.tup (SqT.of upd_same) (TpAll.mono (Le.new hp) ((hs.drop _).take _))) (Nat.zero_le _) ?_
  rw [List.length_take, List.length_drop]
  omega
/-- t[:1] of one that is not empty -/
theorem et_sl1 (h : EvT K 1 hi te σ H) : EvT K 1 1 (tSl (rSlA K) te tNoPart (tPart (tC (.int 1)))) σ H := fun H1 s Q q => by
  refine h H1 s _ fun v H2 ds s2 tp h1 h2 => ?_
  obtain ⟨a, xs, rfl, hS, hs⟩ := tp.sq
  have hl : xs.length = ds.length := hs.len
  have e1 : HT.sIx xs.length 0 none = 0 := rfl
  have e2 : HT.sIx xs.length xs.length (some 1) = 1 := by
    rw [show HT.sIx xs.length xs.length (some 1) = min 1 xs.length from HT.sIx_nat xs.length xs.length 1]
    omega
  refine ⟨1, rfl, a, xs, rfl, hS, fun hw => q _ _ ds s2 tp h1 (by rw [e1, e2] at hw; omega), fun _ p hp => ?_⟩
  refine q _ _ ((ds.drop 0).take 1) (s2.trans (Same.new hp)) (.tup (SqT.of upd_same) ?_) (by rw [List.length_take, List.drop_zero]; omega) (by rw [List.length_take, List.drop_zero]; omega)
  unfold cutV
  rw [e1, e2]
  exact TpAll.mono (Le.new hp) ((hs.drop _).take _)
theorem et_cat {l1 l2 h1 h2 : Nat} (ha : EvT K l1 h1 ta σ H) (hb : EvT K l2 h2 tb σ H) (hz : h1 + h2 ≤ 100000) : EvT K (l1 + l2) (h1 + h2) (tOp (rCatA K) ta tb) σ H := fun H1 s Q q => by
  refine ha H1 s _ fun v H2 ds s2 tp a1 a2 => hb H2 (s.trans s2) _ fun u H3 es s3 tq b1 b2 => ?_
  obtain ⟨a, xs, rfl, hS, hs⟩ := (tp.mono (Le.of s3)).sq
  obtain ⟨b, ys, rfl, hT, ht⟩ := tq.sq
  have e1 := hs.len
  have e2 := ht.len
  refine ⟨a, b, xs, ys, rfl, rfl, hS, hT, szl (by omega), fun z => ?_, fun _ z => ?_, fun _ _ p hp => ?_⟩
  · subst z
    rw [List.length_nil] at e1
    exact q _ _ es (s2.trans s3) tq (by omega) (by omega)
  · subst z
    rw [List.length_nil] at e2
    exact q _ _ ds (s2.trans s3) (tp.mono (Le.of s3)) (by omega) (by omega)
  · exact q _ _ (ds ++ es) ((s2.trans s3).trans (Same.new hp)) (.tup (SqT.of upd_same) ((hs.append ht).mono (Le.new hp))) (by rw [List.length_append]; omega) (by rw [List.length_append]; omega)
theorem et_one (h : EvD K te σ H) : EvT K 1 1 (tTup (tCons te tNil)) σ H := fun H1 s Q q =>
  h H1 s _ fun v H2 d s2 tp => ⟨szl (by show 1 ≤ 100000; decide), fun p hp => q _ _ [d] (s2.trans (Same.new hp)) (.tup (SqT.of upd_same) (.cons (tp.mono (Le.new hp)) .nil)) (Nat.le_refl _) (Nat.le_refl _)⟩
theorem et_rev (h : EvT K lo hi te σ H) : EvT K lo hi (tRevT K te) σ H := fun H1 s Q q => by
  refine h H1 s _ fun v H2 ds s2 tp h1 h2 => ?_
  obtain ⟨a, xs, rfl, hS, hs⟩ := tp.sq
  exact ⟨a, xs, rfl, hS, fun p hp => q _ _ ds.reverse (s2.trans (Same.new hp)) (.tup (SqT.of upd_same) (hs.rev.mono (Le.new hp))) (by rw [List.length_reverse]; exact h1) (by rw [List.length_reverse]; exact h2)⟩
theorem rep_len {α : Type} (l : List α) : ∀ n : Nat, (List.replicate n l).flatten.length = n * l.length
  | 0 => by simp
  | n + 1 => by rw [List.replicate_succ, List.flatten_cons, List.length_append, rep_len l n, Nat.succ_mul, Nat.add_comm]
theorem et_rep (h : EvT K 1 hi te σ H) (hh : hi ≤ 1000) (h1 : 2 ≤ i) (h2 : i ≤ 1000) (he : EvI tb σ i) (hz : i.toNat * hi ≤ 100000) : EvT K 0 (i.toNat * hi) (tOp (rRepT K) te tb) σ H := fun H1 s Q q => by
  refine h H1 s _ fun v H2 ds s2 tp a1 a2 => he H2 _ ?_
  obtain ⟨a, xs, rfl, hS, hs⟩ := tp.sq
  have e1 := hs.len
  refine ⟨a, i, xs, rfl, rfl, hS, fun z => by rw [z] at e1; rw [List.length_nil] at e1; omega, h1, h2, by omega, fun p hp => ?_⟩
  refine q _ _ _ (s2.trans (Same.new hp)) (.tup (SqT.of upd_same) ((hs.rep i.toNat).mono (Le.new hp))) (Nat.zero_le _) ?_
  rw [rep_len]
  exact Nat.mul_le_mul_left _ a2
theorem EvT.ed (h : EvT K lo hi te σ H) : EvD K te σ H := fun H1 s Q q => h H1 s Q fun v H2 ds s2 t _ _ => q v H2 _ s2 t
theorem ed_list (h : EvT K lo hi te σ H) : EvD K (tCB (fun xs H Q => ∃ p ys, xs = [.ref p] ∧ (SqL K H p ys ∨ SqT K H p ys) ∧ ∀ l, H l = none → Q (.ref l) (upd H l (.lst ys))) (tCons te tNil)) σ H := fun H1 s Q q => by
  refine h H1 s _ fun v H2 ds s2 tp _ _ => ?_
  obtain ⟨a, xs, rfl, hS, hs⟩ := tp.sq
  exact ⟨a, xs, rfl, .inr hS, fun p hp => q _ _ _ (s2.trans (Same.new hp)) (.lst upd_same)⟩
end
end Pd

set_option maxHeartbeats 4000000
namespace K01
open PySem PySem.Spec PyProof.Rows L2 Pd
def topS (i : Nat) : Stmt := PySem.Challenge.pw_parlourday_k01_what_is_a_web.main.body.getD i (.Pass ⟨0, 0, 0, 0⟩)
/-- what the top leaves of the names that are read -/
structure Txt (mg : Str → Option Value) : Prop where
  m_len : mg "len" = none
  m_range : mg "range" = none
  m_isinstance : mg "isinstance" = none
  m_int : mg "int" = none
  m_bool : mg "bool" = none
  m_tuple : mg "tuple" = none
  m_list : mg "list" = none
  m_abs : mg "abs" = none
  m_all : mg "all" = none
  m_max : mg "max" = none
  m_min : mg "min" = none
  g_MOST_NODES : ∃ u, mg "MOST_NODES" = some u ∧ RelV (.int 120) u
  g_MOST_MOVES : ∃ u, mg "MOST_MOVES" = some u ∧ RelV (.int 12) u
  g_MOST_WEIGHT : ∃ u, mg "MOST_WEIGHT" = some u ∧ RelV (.int 1000000) u
section
variable {P : Program} {w : World} {K : PySem.W.Frag} {mg : Str → Option Value} {base : Heap} {f : Addr} {fd : FuncData} {k : Nat}
abbrev s__law_hand : Stmt := topS 9
abbrev N__law_hand : List Str := ["_law_script"]
theorem sc__law_hand : FnScope N__law_hand ["_law_script"] (defScope s__law_hand) := ⟨rfl, rfl, rfl, by decide +kernel, rfl, by decide +kernel, by decide +kernel⟩

theorem ok_hand (F : L2.Fun K "_law_hand" "_law_hand" s__law_hand f fd) (T : Txt mg) : FnOk P w K mg base CX0 (k + 1) f fd ["_law_script"] (spHand K) := by
  refine F.ok sc__law_hand (fun vs H Q E h => ?_) (fun cdv A outer s H vs Q E hr h => ?_)
  · obtain ⟨a, ns, rfl, _⟩ := h
    rfl
  · obtain ⟨a, ns, rfl, hS, q⟩ := h
    refine ⟨_, (pss_one (ps_ret (pe_lst (pa_cons (pe_callTy call_list_of (by rfl) T.m_list (by decide +kernel) (pa_cons (pv 0) pa_nil)) (pa_cons pe_int (pa_cons pe_int (pa_cons pe_int (pa_cons pe_int pa_nil)))))))), ?_⟩
    refine ⟨.ref a, rfl, a, _, rfl, .inl hS, fun l hl => ⟨by show 5 ≤ sizeLine; decide, fun p hp => ?_⟩⟩
    have s1 : Same H (upd H l (.lst (ns.map V.int))) := Same.new hl
    have s2 : Same (upd H l (.lst (ns.map V.int))) (upd (upd H l (.lst (ns.map V.int))) p (.lst [.ref l, .int 0, .int 0, .int 0, .int 0])) := Same.new hp
    have hlp : l ≠ p := ne_of_none (upd_same (H := H) (a := l) (o := .lst (ns.map V.int))) hp
    exact q p _ (s1.trans s2) (s1.free hp) ⟨l, ns, 0, 0, 0, 0, upd_same, s2 _ _ upd_same, hlp, by decide, by decide, by decide, by decide⟩
abbrev s__law_draw : Stmt := topS 10
abbrev N__law_draw : List Str := ["_law_hand_here", "_law_size", "_law_value", "_law_cell", "_law_mixed"]
theorem sc__law_draw : FnScope N__law_draw ["_law_hand_here", "_law_size"] (defScope s__law_draw) := ⟨rfl, rfl, rfl, by decide +kernel, rfl, by decide +kernel, by decide +kernel⟩

theorem ok_drawS {b b' : Int} (hb' : b' < 1073741824) (hbb : ∀ n : Int, 1000000 < n → n ≤ b' → n / 1000000 + 1 ≤ b) (F : L2.Fun K "_law_draw" "_law_draw" s__law_draw f fd) (T : Txt mg) (c__law_draw : Fn P w K mg base k "_law_draw" (spDraw b)) : FnOk P w K mg base CX0 (k + 1) f fd ["_law_hand_here", "_law_size"] (spDraw b') := by
  refine F.ok sc__law_draw (fun vs H Q E h => ?_) (fun cdv A outer s H vs Q E hr h => ?_)
  · obtain ⟨a, ns, rfl, _⟩ := h
    rfl
  obtain ⟨hd, n, rfl, ⟨a, ns, i, c, m, kk, e1, e2, ne, i0, c0, m0, m1⟩, n1, n2, q⟩ := h
  refine ⟨_, (pss_cons (ps_if (pt_cmpR op_gt (pe_ix ix_list (pv 0) pe_int (fun _ _ => rfl)) pe_int (nomark _)) (pss_cons (ps_set (i := 2) sc__law_draw.nd rfl (.inl rfl) (pe_op op_mod (pe_callTy call_int1 (by rfl) T.m_int (by decide +kernel) (pa_cons (pe_ix ix_list (pv 0) pe_int (fun _ _ => rfl)) pa_nil)) (pv 1)))
      (pss_cons (ps_asg (pe_op op_fdiv (pe_ix ix_list (pv 0) pe_int (fun _ _ => rfl)) (pv 1)) (pg_sub (pv 0) pe_int set_list))
      (pss_one (ps_ret (pv 2))))) pss_nil)
      (pss_cons (ps_set (i := 3) sc__law_draw.nd rfl (.inl rfl) pe_int)
      (Evl.pss_cut (ps_if (pt_cmpR op_lt (pe_ix ix_list (pv 0) pe_int (fun _ _ => rfl)) (pe_callB call_len_seq (by rfl) T.m_len PySem.boot_len (pa_cons (pe_ix ix_list (pv 0) pe_int (fun _ _ => rfl)) pa_nil)) (nomark _)) (pss_cons (ps_set (i := 3) sc__law_draw.nd rfl (.inl rfl) (pe_ix ix_list (pe_ix ix_list (pv 0) pe_int (fun _ _ => rfl)) (pe_ix ix_list (pv 0) pe_int (fun _ _ => rfl)) (fun _ _ => rfl)))
      (pss_one (ps_asg (pe_op op_add (pe_ix ix_list (pv 0) pe_int (fun _ _ => rfl)) pe_int) (pg_sub (pv 0) pe_int set_list)))) pss_nil)
      (pss_cons (ps_if (pt_cmpR op_ge (pe_callB call_abs (by rfl) T.m_abs (by decide +kernel) (pa_cons (pv 3) pa_nil)) (pe_op op_pow pe_int pe_int) (nomark _)) (pss_cons (ps_asg (pe_op op_fdiv (pe_callB call_abs (by rfl) T.m_abs (by decide +kernel) (pa_cons (pv 3) pa_nil)) (pv 1)) (pg_sub (pv 0) pe_int set_list))
      (pss_one (ps_ret (pe_op op_mod (pe_callTy call_int1 (by rfl) T.m_int (by decide +kernel) (pa_cons (pe_callB call_abs (by rfl) T.m_abs (by decide +kernel) (pa_cons (pv 3) pa_nil)) pa_nil)) (pv 1))))) pss_nil)
      (pss_cons (ps_asg (pe_op op_add (pe_ix ix_list (pv 0) pe_int (fun _ _ => rfl)) pe_int) (pg_sub (pv 0) pe_int set_list))
      (pss_cons (ps_set (i := 4) sc__law_draw.nd rfl (.inl rfl) (pe_op op_mod (pe_callTy call_int1 (by rfl) T.m_int (by decide +kernel) (pa_cons (pe_op op_add (pe_op op_add (pe_op op_add (pe_op op_mul (pe_ix ix_list (pv 0) pe_int (fun _ _ => rfl)) pe_int) (pe_op op_mul (pv 3) pe_int)) (pe_op op_mul (pe_ix ix_list (pv 0) pe_int (fun _ _ => rfl)) pe_int)) pe_int) pa_nil)) pe_int))
      (pss_cons (ps_set (i := 4) sc__law_draw.nd rfl (.inl rfl) (pe_op op_mod (pe_callTy call_int1 (by rfl) T.m_int (by decide +kernel) (pa_cons (pe_op op_add (pe_op op_mul (pe_op op_mod (pe_op op_mul (pv 4) (pv 4)) pe_int) (pv 4)) (pv 3)) pa_nil)) pe_int))
      (pss_cons (ps_asg (pv 4) (pg_sub (pv 0) pe_int set_list))
      (pss_cons (ps_if (pt_cmpR op_gt (pv 1) (pe_op op_pow pe_int pe_int) (nomark _)) (pss_one (ps_ret (pe_op op_mod (pe_callTy call_int1 (by rfl) T.m_int (by decide +kernel) (pa_cons (pe_op op_add (pe_op op_mod (pe_op op_fdiv (pv 4) pe_int) (pe_op op_pow pe_int pe_int)) (pe_op op_mul (pe_op op_pow pe_int pe_int) (pe_f c__law_draw hr (by first | decide | exact Nat.le_refl _ | omega) (by rfl) (pa_cons (pv 0) (pa_cons (pe_op op_add (pe_op op_fdiv (pv 1) (pe_op op_pow pe_int pe_int)) pe_int) pa_nil))))) pa_nil)) (pv 1)))) pss_nil)
      (pss_one (ps_ret (pe_op op_mod (pe_op op_fdiv (pv 4) pe_int) (pv 1))))))))))))), ?_⟩
  have S1 : SqL K H hd [.ref a, .int i, .int c, .int m, .int kk] := SqL.of e1
  have S2 : SqL K H a (ns.map V.int) := SqL.of e2
  refine ⟨.ref hd, rfl, hd, _, 2, _, rfl, rfl, S1, rfl, c, 0, rfl, rfl, _, rfl, ite2 (fun hc => ?_) (fun hc => ?_)⟩
  · -- digits are left
    refine ⟨.ref hd, rfl, hd, _, 2, _, rfl, rfl, S1, rfl, .inl ⟨c, rfl, .int n, rfl, c, n, rfl, rfl, by omega, ?_⟩⟩
    refine ⟨.ref hd, rfl, hd, _, 2, _, rfl, rfl, S1, rfl, .int n, rfl, c, n, rfl, rfl, ⟨by omega, by omega⟩, ?_⟩
    refine ⟨.ref hd, rfl, hd, _, 2, 2, rfl, rfl, e1, rfl, ?_⟩
    refine ⟨.int (c % n), rfl, ?_⟩
    refine q _ _ (hand_put (h := hd) e1 e2 ne i0 (Int.ediv_nonneg c0 (by omega)) m0 m1) (Int.emod_nonneg _ (by omega)) (Int.emod_lt_of_pos _ (by omega))
  · -- a cell is read, or 0
    refine ⟨fun σ H' => ∃ cell i' : Int, σ = [some (.ref hd), some (.int n), none, some (.int cell), none] ∧ H' = upd H hd (.lst [.ref a, .int i', .int c, .int m, .int kk]) ∧ 0 ≤ i', ?_, ?_⟩
    · refine ⟨.ref hd, rfl, hd, _, 1, _, rfl, rfl, S1, rfl, .ref hd, rfl, hd, _, 0, _, rfl, rfl, S1, rfl, a, _, rfl, .inl S2, i, _, rfl, rfl, _, rfl, ite2 (fun hi => ?_) (fun hi => ?_)⟩
      · have hi' : i < ((ns.map V.int).length : Int) := of_decide_eq_true hi
        rw [List.length_map] at hi'
        have hj : i.toNat < ns.length := by omega
        have g : (ns.map V.int)[i.toNat]? = some (.int ns[i.toNat]) := by
          rw [List.getElem?_map, List.getElem?_eq_getElem hj]
          rfl
        have ga : atI (ns.map V.int) i = some (.int ns[i.toNat]) := at_of (j := i.toNat) (by omega) g
        refine ⟨.ref hd, rfl, hd, _, 0, _, rfl, rfl, S1, rfl, .ref hd, rfl, hd, _, 1, _, rfl, rfl, S1, rfl, a, _, i, _, rfl, rfl, S2, ga, ?_⟩
        refine ⟨.ref hd, rfl, hd, _, 1, _, rfl, rfl, S1, rfl, i, 1, rfl, rfl, .ref hd, rfl, hd, _, 1, 1, rfl, rfl, e1, rfl, ?_⟩
        exact ⟨ns[i.toNat], i + 1, rfl, rfl, by omega⟩
      · exact ⟨0, i, rfl, by
          funext b
          by_cases hb : b = hd
          · rw [hb, upd_same, e1]
          · rw [upd_ne hb], i0⟩
    · rintro σ H' ⟨cell, i', rfl, eH, i0'⟩
      have g1 : Go hd H H' := by rw [eH]; exact hand_put e1 e2 ne i0' c0 m0 m1
      have e1' : H' hd = some (.lst [.ref a, .int i', .int c, .int m, .int kk]) := by rw [eH]; exact upd_same
      have e2' : H' a = some (.lst (ns.map V.int)) := g1.fr _ _ ne e2
      refine ⟨.int cell, rfl, cell, rfl, 10, 18, rfl, rfl, ⟨by decide, by decide, by decide⟩, _, _, rfl, rfl, _, rfl, ite2 (fun hb => ?_) (fun hb => ?_)⟩
      · -- a great cell
        have pos : 0 ≤ if cell < 0 then -cell else cell := by split <;> omega
        refine ⟨.int cell, rfl, cell, rfl, .int n, rfl, _, n, rfl, rfl, ⟨by omega, by omega⟩, .ref hd, rfl, hd, _, 2, 2, rfl, rfl, e1', rfl, ?_⟩
        refine ⟨.int cell, rfl, cell, rfl, .inl ⟨_, rfl, .int n, rfl, _, n, rfl, rfl, by omega, ?_⟩⟩
        exact q _ _ (g1.trans (hand_put (h := hd) e1' e2' ne i0' (Int.ediv_nonneg pos (by omega)) m0 m1)) (Int.emod_nonneg _ (by omega)) (Int.emod_lt_of_pos _ (by omega))
      · have small : -(2 ^ 64 : Int) < cell ∧ cell < 2 ^ 64 := by
          have hb' : ¬ ((10 : Int) ^ (18 : Int).toNat ≤ if cell < 0 then -cell else cell) := fun z => hb (decide_eq_true z)
          have e : ((10 : Int) ^ (18 : Int).toNat) = 1000000000000000000 := by decide
          rw [e] at hb'
          split at hb' <;> omega
        refine ⟨.ref hd, rfl, hd, _, 4, _, rfl, rfl, SqL.of e1', rfl, kk, 1, rfl, rfl, .ref hd, rfl, hd, _, 4, 4, rfl, rfl, e1', rfl, ?_⟩
        have e1s : upd H' hd (.lst [.ref a, .int i', .int c, .int m, .int (kk + 1)]) hd = some (.lst [.ref a, .int i', .int c, .int m, .int (kk + 1)]) := upd_same
        refine ⟨.ref hd, rfl, hd, _, 3, _, rfl, rfl, SqL.of e1s, rfl, m, 40014, rfl, rfl, .inr ⟨by decide, by decide⟩, ?_⟩
        refine ⟨.int cell, rfl, cell, 69069, rfl, rfl, .inr ⟨by decide, by decide⟩, _, _, rfl, rfl, ?_⟩
        refine ⟨.ref hd, rfl, hd, _, 4, _, rfl, rfl, SqL.of e1s, rfl, _, 22193, rfl, rfl, .inr ⟨by decide, by decide⟩, _, _, rfl, rfl, _, 7919, rfl, rfl, .inl ⟨_, rfl, _, 2147483563, rfl, rfl, (show (0 : Int) < 2147483563 by decide), ?_⟩⟩
        have hx : 0 ≤ (m * 40014 + cell * 69069 + (kk + 1) * 22193 + 7919) % 2147483563 ∧ (m * 40014 + cell * 69069 + (kk + 1) * 22193 + 7919) % 2147483563 < 2147483563 := ⟨Int.emod_nonneg _ (by decide), Int.emod_lt_of_pos _ (by decide)⟩
        refine ⟨_, rfl, _, rfl, _, _, rfl, rfl, .inl ⟨?_, ?_⟩, _, 2147483399, rfl, rfl, (show (0 : Int) < 2147483399 by decide), _, rfl, _, _, rfl, rfl, .inr ⟨?_, ?_⟩, .int cell, rfl, _, _, rfl, rfl, .inl ⟨_, rfl, _, 2147483399, rfl, rfl, (show (0 : Int) < 2147483399 by decide), ?_⟩⟩
        · exact Int.lt_of_lt_of_le (by decide) hx.1
        · exact Int.lt_trans hx.2 (by decide)
        · exact Int.lt_of_lt_of_le (by decide) hx.1
        · exact Int.lt_trans hx.2 (by decide)
        have p6 : (10 : Int) ^ (6 : Int).toNat = 1000000 := by decide
        have hy := And.intro (Int.emod_nonneg ((m * 40014 + cell * 69069 + (kk + 1) * 22193 + 7919) % 2147483563 * ((m * 40014 + cell * 69069 + (kk + 1) * 22193 + 7919) % 2147483563) % 2147483399 * ((m * 40014 + cell * 69069 + (kk + 1) * 22193 + 7919) % 2147483563) + cell) (show (2147483399 : Int) ≠ 0 by decide))
          (Int.emod_lt_of_pos ((m * 40014 + cell * 69069 + (kk + 1) * 22193 + 7919) % 2147483563 * ((m * 40014 + cell * 69069 + (kk + 1) * 22193 + 7919) % 2147483563) % 2147483399 * ((m * 40014 + cell * 69069 + (kk + 1) * 22193 + 7919) % 2147483563) + cell) (show (0 : Int) < 2147483399 by decide))
        refine ⟨_, rfl, .ref hd, rfl, hd, _, 3, 3, rfl, rfl, e1s, rfl, ?_⟩
        have g3 := g1.trans ((hand_put (h := hd) (k := kk + 1) e1' e2' ne i0' c0 m0 m1).trans (hand_put (h := hd) (k := kk + 1) e1s ((hand_put (h := hd) (k := kk + 1) e1' e2' ne i0' c0 m0 m1).fr _ _ ne e2') ne i0' c0 hy.1 hy.2))
        refine ⟨.int n, rfl, 10, 6, rfl, rfl, ⟨by decide, by decide, by decide⟩, n, _, rfl, rfl, _, rfl, ite2 (fun hs => ?_) (fun hs => ?_)⟩
        · have hs' : (1000000 : Int) < n := by
            have := of_decide_eq_true hs
            rw [p6] at this
            exact this
          refine ⟨_, rfl, _, 32, rfl, rfl, ⟨by decide, by decide⟩, 10, 6, rfl, rfl, ⟨by decide, by decide, by decide⟩, _, _, rfl, rfl, (show (0 : Int) < 10 ^ (6 : Int).toNat by decide), 10, 6, rfl, rfl, ⟨by decide, by decide, by decide⟩,
            .ref hd, rfl, .int n, rfl, 10, 6, rfl, rfl, ⟨by decide, by decide, by decide⟩, n, _, rfl, rfl, ⟨by decide, by decide⟩, _, 1, rfl, rfl, hd, _, rfl, g3.ok ⟨a, ns, i, c, m, kk, e1, e2, ne, i0, c0, m0, m1⟩, ?_, ?_, fun v H'' g v0 v1 => ?_⟩
          · rw [p6]; omega
          · rw [p6]; exact hbb n hs' n2
          · refine ⟨_, v, rfl, rfl, .inl ⟨by decide, by decide⟩, _, _, rfl, rfl, .inl ⟨_, rfl, .int n, rfl, _, n, rfl, rfl, (show (0 : Int) < n by omega), ?_⟩⟩
            exact q _ _ (g3.trans g) (Int.emod_nonneg _ (by omega)) (Int.emod_lt_of_pos _ (by omega))
        · refine ⟨_, rfl, _, 32, rfl, rfl, ⟨by decide, by decide⟩, .int n, rfl, _, n, rfl, rfl, (show (0 : Int) < n by omega), ?_⟩
          exact q _ _ g3 (Int.emod_nonneg _ (by omega)) (Int.emod_lt_of_pos _ (by omega))
theorem ok_draw0 : FnOk P w K mg base CX0 k f fd ["_law_hand_here", "_law_size"] (spDraw 0) :=
  ⟨fun vs H Q E h => by obtain ⟨_, _, rfl, _⟩ := h; rfl, fun A outer s H args us vs Q E _ _ _ _ h => by
    obtain ⟨_, n, _, _, n1, n2, _⟩ := h
    exact absurd (Int.le_trans n1 n2) (by decide)⟩
end
end K01

set_option maxHeartbeats 4000000
namespace K01
open PySem PySem.Spec PyProof.Rows L2 Pd
section
variable {P : Program} {w : World} {K : PySem.W.Frag} {mg : Str → Option Value} {base : Heap} {f : Addr} {fd : FuncData} {k : Nat} {dvs : List V} {kws : List (Str × V)}
abbrev s_is_integer : Stmt := topS 1
abbrev N_is_integer : List Str := ["thing", "low", "high"]
theorem sc_is_integer : FnScope N_is_integer ["thing", "low", "high"] (defScope s_is_integer) := ⟨rfl, rfl, rfl, by decide +kernel, rfl, by decide +kernel, by decide +kernel⟩

theorem ok_is_integer (F : FunD K "is_integer" "is_integer" (defArgs s_is_integer) (defBody s_is_integer) (defScope s_is_integer) dvs kws f fd) (T : Txt mg) : FnOk P w K mg base CX0 (k + 1) f fd ["thing", "low", "high"] (spIsInteger K) := by
  refine F.ok sc_is_integer (fun vs H Q E h => ?_) (fun cdv A outer s H vs Q E hr h => ?_)
  · obtain ⟨v, lo, hi, d, rfl, _⟩ := h
    rfl
  obtain ⟨v, lo, hi, d, rfl, t, q⟩ := h
  refine ⟨_, PSs.nox (pss_cons (ps_if (PW.pt (pw_or (pt_not (pt_val (pe_callB call_isi (by rfl) T.m_isinstance (by decide +kernel) (pa_cons (pv 0) (pa_cons (pe_ty (n := "int") (by rfl) T.m_int (by decide +kernel)) pa_nil))))) (pw_or1 (pt_val (pe_callB call_isi (by rfl) T.m_isinstance (by decide +kernel) (pa_cons (pv 0) (pa_cons (pe_ty (n := "bool") (by rfl) T.m_bool (by decide +kernel)) pa_nil))))))) (pss_one (ps_ret pe_bl)) pss_nil)
      (pss_one (ps_ret (pe_and (pe_or (pe_cmpR op_isN (pv 1) pe_non (nomark _)) (pe_one (pe_cmpR op_le (pv 1) (pv 0) (nomark _)))) (pe_one (pe_or (pe_cmpR op_isN (pv 2) pe_non (nomark _)) (pe_one (pe_cmpR op_le (pv 0) (pv 2) (nomark _))))))))), ?_⟩
  refine ⟨v, rfl, v, .ty _, _, _, _, rfl, .ty _, t.ty, t.kInt, _, rfl, ?_⟩
  cases hn : d.isNum with
  | false =>
    rw [isInt_num hn] at q
    exact iteT (iteT q)
  | true =>
    refine iteF ⟨v, rfl, v, .ty _, _, _, _, rfl, .ty _, t.ty, t.kBool, _, rfl, ?_⟩
    cases hb : d.isBool with
    | true =>
      rw [isInt_bool hb] at q
      exact iteT q
    | false =>
      obtain ⟨i, rfl, rfl⟩ := t.intOf hn hb
      refine iteF ?_
      refine ⟨.int lo, rfl, rfl, false, rfl, iteF ⟨.int lo, rfl, .int i, rfl, lo, i, rfl, rfl, _, rfl, ?_⟩⟩
      have q' : Q (.bl (decide (lo ≤ i) && decide (i ≤ hi))) H := q
      by_cases h1 : lo ≤ i
      · rw [decide_eq_true h1] at q' ⊢
        exact iteT ⟨.int hi, rfl, rfl, false, rfl, iteF ⟨.int i, rfl, .int hi, rfl, i, hi, rfl, rfl, q'⟩⟩
      · rw [decide_eq_false h1] at q' ⊢
        exact iteF q'
abbrev s_is_node : Stmt := topS 6
abbrev N_is_node : List Str := ["thing", "many", "move"]
theorem sc_is_node : FnScope N_is_node ["thing", "many"] (defScope s_is_node) := ⟨rfl, rfl, rfl, by decide +kernel, rfl, by decide +kernel, by decide +kernel⟩

theorem ok_is_node (F : L2.Fun K "is_node" "is_node" s_is_node f fd) (T : Txt mg) (c_is_integer : Fn P w K mg base k "is_integer" (spIsInteger K)) : FnOk P w K mg base CX0 (k + 1) f fd ["thing", "many"] (spIsNode K) := by
  refine F.ok sc_is_node (fun vs H Q E h => ?_) (fun cdv A outer s H vs Q E hr h => ?_)
  · obtain ⟨v, lo, d, rfl, _⟩ := h
    rfl
  obtain ⟨v, many, d, rfl, t, q⟩ := h
  refine ⟨_, (pss_cons (ps_if (PW.pt (pw_or (pt_not (pt_val (pe_callB call_isi (by rfl) T.m_isinstance (by decide +kernel) (pa_cons (pv 0) (pa_cons (pe_ty (n := "tuple") (by rfl) T.m_tuple (by decide +kernel)) pa_nil))))) (pw_or1 (pt_not (pt_chain op_le op_le pe_int (pe_callB call_len_seq (by rfl) T.m_len PySem.boot_len (pa_cons (pv 0) pa_nil)) (pe_gl (by rfl) T.g_MOST_MOVES)))))) (pss_one (ps_ret pe_bl)) pss_nil)
      (pss_cons (ps_for PassesOwn.never rfl (pi_tup (pv 0)) (pg_name (i := 2) sc_is_node.nd rfl (.inl rfl)) (pss_cons (ps_if (PW.pt (pw_or (pt_not (pt_val (pe_callB call_isi (by rfl) T.m_isinstance (by decide +kernel) (pa_cons (pv 2) (pa_cons (pe_ty (n := "tuple") (by rfl) T.m_tuple (by decide +kernel)) pa_nil))))) (pw_or (pt_cmpR op_ne (pe_callB call_len_seq (by rfl) T.m_len PySem.boot_len (pa_cons (pv 2) pa_nil)) pe_int (nomark _)) (pw_or1 (pt_not (pt_val (pe_f c_is_integer hr (by first | decide | exact Nat.le_refl _ | omega) (by rfl) (pa_cons (pe_ix ix_tup (pv 2) pe_int (fun _ _ => rfl)) (pa_cons (pe_un un_neg (pe_gl (by rfl) T.g_MOST_WEIGHT)) (pa_cons (pe_gl (by rfl) T.g_MOST_WEIGHT) pa_nil)))))))))) (pss_one (ps_ret pe_bl)) pss_nil)
      (pss_one (ps_if (pt_not (pt_val (pe_f c_is_integer hr (by first | decide | exact Nat.le_refl _ | omega) (by rfl) (pa_cons (pe_ix ix_tup (pv 2) pe_int (fun _ _ => rfl)) (pa_cons pe_int (pa_cons (pe_op op_sub (pv 1) pe_int) pa_nil)))))) (pss_one (ps_ret pe_bl)) pss_nil))))
      (pss_one (ps_ret pe_bl)))), ?_⟩
  refine ⟨v, rfl, v, .ty _, _, _, _, rfl, .ty _, t.ty, t.kTup, _, rfl, ?_⟩
  cases hn : d.isTup with
  | false =>
    rw [isNode_tup hn] at q
    exact iteT (iteT q)
  | true =>
    obtain ⟨a, xs, ds, rfl, rfl, hS, hs⟩ := t.tupOf hn
    have q' : Q (.bl ((decide ((1 : Int) ≤ ds.length) && decide ((ds.length : Int) ≤ 12)) && ds.all (isMove many))) H := q
    have hl : xs.length = ds.length := hs.len
    refine iteF ⟨.ref a, rfl, a, xs, rfl, .inr hS, 1, _, rfl, rfl, chain_le (fun Q2 h2 => h2) ?_⟩
    rw [hl]
    cases hc : (decide ((1 : Int) ≤ ds.length) && decide ((ds.length : Int) ≤ 12)) with
    | false =>
      rw [hc] at q'
      exact iteT q'
    | true =>
      rw [hc, Bool.true_and] at q'
      refine iteF ⟨.ref a, rfl, a, rfl, ⟨_, hS⟩, for_tup (K := K) (a := a) (xs := xs) (fun i σ H' => (∃ m, σ = [some (.ref a), some (.int many), m]) ∧ H' = H ∧ (ds.take i).all (isMove many) = true)
        ⟨⟨none, rfl⟩, rfl, rfl⟩ (fun i σ H' _ p => by rw [p.2.1]; exact hS) ?_ ?_⟩
      · rintro i x σ H' hx ⟨⟨m, rfl⟩, rfl, ha⟩
        obtain ⟨dx, hdx, tx⟩ := hs.get hx
        have bad : isMove many dx = false → Q (.bl false) H' := fun hb => by rw [all_not hdx hb] at q'; exact q'
        have good : isMove many dx = true → (ds.take (i + 1)).all (isMove many) = true := fun hg => all_take hdx ha hg
        refine ⟨x, rfl, x, .ty _, _, _, _, rfl, .ty _, tx.ty, tx.kTup, _, rfl, ?_⟩
        cases hn2 : dx.isTup with
        | false => exact iteT (iteT (bad (isMove_tup hn2)))
        | true =>
          obtain ⟨b, ys, es, rfl, rfl, hS2, hs2⟩ := tx.tupOf hn2
          refine iteF ⟨.ref b, rfl, b, ys, rfl, .inr hS2, rfl, _, rfl, ?_⟩
          by_cases h2 : es.length = 2
          · obtain ⟨e0, e1, rfl⟩ : ∃ e0 e1, es = [e0, e1] := by
              match es, h2 with
              | [e0, e1], _ => exact ⟨e0, e1, rfl⟩
            cases hs2 with
            | cons t0 hs3 =>
              cases hs3 with
              | cons t1 hs4 =>
                cases hs4
                rename_i v0 v1
                refine iteF ⟨.ref b, rfl, b, _, 0, v0, rfl, rfl, hS2, rfl, 1000000, rfl, v0, -1000000, 1000000, e0, rfl, t0, _, rfl, ?_⟩
                have em : isMove many (.tup [e0, e1]) = (isInt (-1000000) 1000000 e0 && isInt 0 (many - 1) e1) := rfl
                cases hi0 : isInt (-1000000) 1000000 e0 with
                | false =>
                  rw [hi0] at em
                  exact iteT (bad em)
                | true =>
                  rw [hi0, Bool.true_and] at em
                  refine iteF ⟨.ref b, rfl, b, _, 1, v1, rfl, rfl, hS2, rfl, .int many, rfl, many, 1, rfl, rfl, v1, 0, many - 1, e1, rfl, t1, _, rfl, ?_⟩
                  cases hi1 : isInt 0 (many - 1) e1 with
                  | false =>
                    rw [hi1] at em
                    exact iteT (bad em)
                  | true =>
                    rw [hi1] at em
                    exact iteF ⟨⟨_, rfl⟩, rfl, good em⟩
          · have hne : ¬ (V.int (ys.length : Int) = V.int 2) := fun z => by
              have := V.int.inj z
              rw [hs2.len] at this
              omega
            rw [decide_eq_false hne]
            exact iteT (iteT (bad (isMove_len h2)))
      · rintro σ H' ⟨⟨m, rfl⟩, rfl, ha⟩
        rw [hl, List.take_length] at ha
        rw [ha] at q'
        exact q'
end
end K01

set_option maxHeartbeats 4000000
namespace K01
open PySem PySem.Spec PyProof.Rows L2 Pd
theorem small_lt {n : Nat} (h : n ≤ 100000) : n < sizeLine := Nat.lt_of_le_of_lt h (by decide)
section
variable {P : Program} {w : World} {K : PySem.W.Frag} {mg : Str → Option Value} {base : Heap} {f : Addr} {fd : FuncData} {k : Nat} {dvs : List V} {kws : List (Str × V)}
abbrev s_is_web : Stmt := topS 7
abbrev N_is_web : List Str := ["thing", "node"]
theorem sc_is_web : FnScope N_is_web ["thing"] (defScope s_is_web) := ⟨rfl, rfl, rfl, by decide +kernel, rfl, by decide +kernel, by decide +kernel⟩

theorem ok_is_web (F : L2.Fun K "is_web" "is_web" s_is_web f fd) (T : Txt mg) (c_is_node : Fn P w K mg base k "is_node" (spIsNode K)) : FnOk P w K mg base CX0 (k + 1) f fd ["thing"] (spIsWeb K) := by
  refine F.ok sc_is_web (fun vs H Q E h => ?_) (fun cdv A outer s H vs Q E hr h => ?_)
  · obtain ⟨v, d, rfl, _⟩ := h
    rfl
  obtain ⟨v, d, rfl, t, q⟩ := h
  refine ⟨_, (pss_cons (ps_if (PW.pt (pw_or (pt_not (pt_val (pe_callB call_isi (by rfl) T.m_isinstance (by decide +kernel) (pa_cons (pv 0) (pa_cons (pe_ty (n := "tuple") (by rfl) T.m_tuple (by decide +kernel)) pa_nil))))) (pw_or1 (pt_not (pt_chain op_le op_le pe_int (pe_callB call_len_seq (by rfl) T.m_len PySem.boot_len (pa_cons (pv 0) pa_nil)) (pe_gl (by rfl) T.g_MOST_NODES)))))) (pss_one (ps_ret pe_bl)) pss_nil)
      (pss_one (ps_ret (pe_callB (cr_all rfl) (by rfl) T.m_all (by decide +kernel) (pa_cons (pe_lc (own := [("node", 1)]) (g := gName 1)  rfl sc_is_web.nd (pi_tup (pv 0)) (blkOk_by (own := [("node", 1)]) (N := N_is_web) (sc := defScope s_is_web) (by decide +kernel)) (fun _ _ _ _ _ => pg_name (i := 1) sc_is_web.nd rfl (.inl rfl)) (fun _ _ _ _ _ => pts_nil) (fun _ _ _ _ _ => (pe_f c_is_node hr (by first | decide | exact Nat.le_refl _ | omega) (by rfl) (pa_cons (pv 1) (pa_cons (pe_callB (lenK (K := K)) (by rfl) T.m_len PySem.boot_len (pa_cons (pv 0) pa_nil)) pa_nil))))) pa_nil))))), ?_⟩
  refine ⟨v, rfl, v, .ty _, _, _, _, rfl, .ty _, t.ty, t.kTup, _, rfl, ?_⟩
  cases hn : d.isTup with
  | false =>
    rw [isWeb_tup hn] at q
    exact iteT (iteT (q _ (Same.refl _)))
  | true =>
    obtain ⟨a, xs, ds, rfl, rfl, hS, hs⟩ := t.tupOf hn
    have q' : ∀ H', Same H H' → Q (.bl ((decide ((1 : Int) ≤ ds.length) && decide ((ds.length : Int) ≤ 120)) && ds.all (isNode ds.length))) H' := q
    have hl : xs.length = ds.length := hs.len
    refine iteF ⟨.ref a, rfl, a, xs, rfl, .inr hS, 1, _, rfl, rfl, chain_le (fun Q2 h2 => h2) ?_⟩
    rw [hl]
    cases hc : (decide ((1 : Int) ≤ ds.length) && decide ((ds.length : Int) ≤ 120)) with
    | false =>
      rw [hc] at q'
      exact iteT (q' _ (Same.refl _))
    | true =>
      have h120 : (ds.length : Int) ≤ 120 := by
        rw [Bool.and_eq_true] at hc
        exact of_decide_eq_true hc.2
      rw [hc, Bool.true_and] at q'
      refine iteF ⟨.ref a, rfl, a, rfl, ⟨_, hS⟩, fun Dl hD => lc_tup (K := K) (a := a) (xs := xs) (fun i H' => Same H H' ∧ H' Dl = some (.lst ((ds.take i).map fun d => .bl (isNode ds.length d))))
        ⟨Same.new hD, upd_same⟩ (fun i H' _ p => (Le.of p.1).sqT hS) ?_ ?_⟩
      · rintro i x H' hx ⟨sm, hacc⟩
        obtain ⟨dx, hdx, tx⟩ := hs.get hx
        refine ⟨rfl, yes_rd ?_⟩
        refine ⟨x, rfl, .ref a, rfl, a, xs, rfl, .inr ((Le.of sm).sqT hS), x, _, dx, rfl, tx.mono (Le.of sm), _, hacc, ?_, ?_, ?_⟩
        · rw [List.length_map, List.length_take]
          exact small_lt (by omega)
        · intro b o e
          rw [upd_ne (ne_of_none e hD)]
          exact sm b o e
        · rw [upd_same, List.take_add_one, hdx, List.map_append, hl]
          rfl
      · rintro H' ⟨sm, hacc⟩
        rw [hl, List.take_length] at hacc
        have e : (ds.map fun d => V.bl (isNode ds.length d)) = (ds.map (isNode ds.length)).map V.bl := by rw [List.map_map]; rfl
        rw [e] at hacc
        refine ⟨Dl, _, rfl, SqL.of hacc, ?_⟩
        have e2 : (ds.map (isNode ds.length)).all id = ds.all (isNode ds.length) := by rw [List.all_map]; rfl
        rw [e2]
        exact q' _ sm
abbrev s__law_is_number : Stmt := topS 12
abbrev N__law_is_number : List Str := ["_law_item", "_law_low", "_law_high"]
theorem sc__law_is_number : FnScope N__law_is_number ["_law_item", "_law_low", "_law_high"] (defScope s__law_is_number) := ⟨rfl, rfl, rfl, by decide +kernel, rfl, by decide +kernel, by decide +kernel⟩

theorem ok_number (F : L2.Fun K "_law_is_number" "_law_is_number" s__law_is_number f fd) (T : Txt mg) : FnOk P w K mg base CX0 (k + 1) f fd ["_law_item", "_law_low", "_law_high"] (spIsInteger K) := by
  refine F.ok sc__law_is_number (fun vs H Q E h => ?_) (fun cdv A outer s H vs Q E hr h => ?_)
  · obtain ⟨v, lo, hi, d, rfl, _⟩ := h
    rfl
  obtain ⟨v, lo, hi, d, rfl, t, q⟩ := h
  refine ⟨_, (pss_one (ps_ret (pe_and (pe_callB call_isi (by rfl) T.m_isinstance (by decide +kernel) (pa_cons (pv 0) (pa_cons (pe_ty (n := "int") (by rfl) T.m_int (by decide +kernel)) pa_nil))) (pe_and (pe_not (pe_callB call_isi (by rfl) T.m_isinstance (by decide +kernel) (pa_cons (pv 0) (pa_cons (pe_ty (n := "bool") (by rfl) T.m_bool (by decide +kernel)) pa_nil)))) (pe_one (pe_chain op_le op_le (pv 1) (pv 0) (pv 2))))))), ?_⟩
  refine ⟨v, rfl, v, .ty _, _, _, _, rfl, .ty _, t.ty, t.kInt, _, rfl, ?_⟩
  cases hn : d.isNum with
  | false =>
    rw [isInt_num hn] at q
    exact iteF q
  | true =>
    refine iteT ⟨v, rfl, v, .ty _, _, _, _, rfl, .ty _, t.ty, t.kBool, _, rfl, _, rfl, ?_⟩
    cases hb : d.isBool with
    | true =>
      rw [isInt_bool hb] at q
      exact iteF q
    | false =>
      obtain ⟨i, rfl, rfl⟩ := t.intOf hn hb
      exact iteT ⟨.int lo, rfl, .int i, rfl, lo, i, rfl, rfl, chain_leV (fun Q2 h2 => ⟨.int hi, rfl, h2⟩) q⟩
abbrev s__law_is_web : Stmt := topS 13
abbrev N__law_is_web : List Str := ["_law_item", "_law_node", "_law_move"]
theorem sc__law_is_web : FnScope N__law_is_web ["_law_item"] (defScope s__law_is_web) := ⟨rfl, rfl, rfl, by decide +kernel, rfl, by decide +kernel, by decide +kernel⟩

theorem ok_law_is_web (F : L2.Fun K "_law_is_web" "_law_is_web" s__law_is_web f fd) (T : Txt mg) (c__law_is_number : Fn P w K mg base k "_law_is_number" (spIsInteger K)) : FnOk P w K mg base CX0 (k + 1) f fd ["_law_item"] (spIsWeb K) := by
  refine F.ok sc__law_is_web (fun vs H Q E h => ?_) (fun cdv A outer s H vs Q E hr h => ?_)
  · obtain ⟨v, d, rfl, _⟩ := h
    rfl
  obtain ⟨v, d, rfl, t, q0⟩ := h
  have q : Q (.bl (isWeb d)) H := q0 H (Same.refl H)
  have p6 : (10 : Int) ^ (6 : Int).toNat = 1000000 := by decide
  refine ⟨_, (pss_cons (ps_if (PW.pt (pw_or (pt_not (pt_val (pe_callB call_isi (by rfl) T.m_isinstance (by decide +kernel) (pa_cons (pv 0) (pa_cons (pe_ty (n := "tuple") (by rfl) T.m_tuple (by decide +kernel)) pa_nil))))) (pw_or (pt_cmpR op_lt (pe_callB call_len_seq (by rfl) T.m_len PySem.boot_len (pa_cons (pv 0) pa_nil)) pe_int (nomark _)) (pw_or1 (pt_cmpR op_gt (pe_callB call_len_seq (by rfl) T.m_len PySem.boot_len (pa_cons (pv 0) pa_nil)) pe_int (nomark _)))))) (pss_one (ps_ret pe_bl)) pss_nil)
      (pss_cons (ps_for PassesOwn.never rfl (pi_tup (pv 0)) (pg_name (i := 1) sc__law_is_web.nd rfl (.inl rfl)) (pss_cons (ps_if (PW.pt (pw_or (pt_not (pt_val (pe_callB call_isi (by rfl) T.m_isinstance (by decide +kernel) (pa_cons (pv 1) (pa_cons (pe_ty (n := "tuple") (by rfl) T.m_tuple (by decide +kernel)) pa_nil))))) (pw_or (pt_cmpR op_lt (pe_callB call_len_seq (by rfl) T.m_len PySem.boot_len (pa_cons (pv 1) pa_nil)) pe_int (nomark _)) (pw_or1 (pt_cmpR op_gt (pe_callB call_len_seq (by rfl) T.m_len PySem.boot_len (pa_cons (pv 1) pa_nil)) pe_int (nomark _)))))) (pss_one (ps_ret pe_bl)) pss_nil)
      (pss_one (ps_for PassesOwn.never rfl (pi_tup (pv 1)) (pg_name (i := 2) sc__law_is_web.nd rfl (.inl rfl)) (pss_cons (ps_if (PW.pt (pw_or (pt_not (pt_val (pe_callB call_isi (by rfl) T.m_isinstance (by decide +kernel) (pa_cons (pv 2) (pa_cons (pe_ty (n := "tuple") (by rfl) T.m_tuple (by decide +kernel)) pa_nil))))) (pw_or (pt_cmpR op_ne (pe_callB call_len_seq (by rfl) T.m_len PySem.boot_len (pa_cons (pv 2) pa_nil)) pe_int (nomark _)) (pw_or1 (pt_not (pt_val (pe_f c__law_is_number hr (by first | decide | exact Nat.le_refl _ | omega) (by rfl) (pa_cons (pe_ix ix_tup (pv 2) pe_int (fun _ _ => rfl)) (pa_cons (pe_un un_neg (pe_op op_pow pe_int pe_int)) (pa_cons (pe_op op_pow pe_int pe_int) pa_nil)))))))))) (pss_one (ps_ret pe_bl)) pss_nil)
      (pss_one (ps_if (pt_not (pt_val (pe_f c__law_is_number hr (by first | decide | exact Nat.le_refl _ | omega) (by rfl) (pa_cons (pe_ix ix_tup (pv 2) pe_int (fun _ _ => rfl)) (pa_cons pe_int (pa_cons (pe_op op_sub (pe_callB call_len_seq (by rfl) T.m_len PySem.boot_len (pa_cons (pv 0) pa_nil)) pe_int) pa_nil)))))) (pss_one (ps_ret pe_bl)) pss_nil)))))))
      (pss_one (ps_ret pe_bl)))), ?_⟩
  refine ⟨v, rfl, v, .ty _, _, _, _, rfl, .ty _, t.ty, t.kTup, _, rfl, ?_⟩
  cases hn : d.isTup with
  | false =>
    rw [isWeb_tup hn] at q
    exact iteT (iteT q)
  | true =>
    obtain ⟨a, xs, ds, rfl, rfl, hS, hs⟩ := t.tupOf hn
    have hl : xs.length = ds.length := hs.len
    have q' : Q (.bl ((decide ((1 : Int) ≤ ds.length) && decide ((ds.length : Int) ≤ 120)) && ds.all (isNode ds.length))) H := q
    refine iteF ⟨.ref a, rfl, a, xs, rfl, .inr hS, _, 1, rfl, rfl, _, rfl, ?_⟩
    rw [hl]
    by_cases h1 : (ds.length : Int) < 1
    · rw [decide_eq_true h1]
      rw [decide_eq_false (show ¬ (1 : Int) ≤ ds.length by omega)] at q'
      exact iteT (iteT q')
    rw [decide_eq_false h1]
    rw [decide_eq_true (show (1 : Int) ≤ ds.length by omega), Bool.true_and] at q'
    refine iteF ⟨.ref a, rfl, a, xs, rfl, .inr hS, _, 120, rfl, rfl, _, rfl, ?_⟩
    rw [hl]
    by_cases h2 : (120 : Int) < ds.length
    · rw [decide_eq_true h2]
      rw [decide_eq_false (show ¬ (ds.length : Int) ≤ 120 by omega)] at q'
      exact iteT q'
    rw [decide_eq_false h2]
    rw [decide_eq_true (show (ds.length : Int) ≤ 120 by omega), Bool.true_and] at q'
    refine iteF ⟨.ref a, rfl, a, rfl, ⟨_, hS⟩, for_tup (K := K) (a := a) (xs := xs) (fun i σ H' => (∃ m m2, σ = [some (.ref a), m, m2]) ∧ H' = H ∧ (ds.take i).all (isNode ds.length) = true)
      ⟨⟨none, none, rfl⟩, rfl, rfl⟩ (fun i σ H' _ p => by rw [p.2.1]; exact hS) ?_ ?_⟩
    · rintro i x σ H' hx ⟨⟨m, m2, rfl⟩, rfl, ha⟩
      obtain ⟨dx, hdx, tx⟩ := hs.get hx
      have badN : isNode ds.length dx = false → Q (.bl false) H' := fun hb => by rw [all_not hdx hb] at q'; exact q'
      have goodN : isNode ds.length dx = true → (ds.take (i + 1)).all (isNode ds.length) = true := fun hg => all_take hdx ha hg
      refine ⟨x, rfl, x, .ty _, _, _, _, rfl, .ty _, tx.ty, tx.kTup, _, rfl, ?_⟩
      cases hn2 : dx.isTup with
      | false => exact iteT (iteT (badN (isNode_tup hn2)))
      | true =>
      obtain ⟨b, ys, es, rfl, rfl, hS2, hs2⟩ := tx.tupOf hn2
      have hl2 : ys.length = es.length := hs2.len
      have en : isNode ds.length (.tup es) = ((decide ((1 : Int) ≤ es.length) && decide ((es.length : Int) ≤ 12)) && es.all (isMove ds.length)) := rfl
      refine iteF ⟨.ref b, rfl, b, ys, rfl, .inr hS2, _, 1, rfl, rfl, _, rfl, ?_⟩
      rw [hl2]
      by_cases h3 : (es.length : Int) < 1
      · rw [decide_eq_true h3]
        rw [decide_eq_false (show ¬ (1 : Int) ≤ es.length by omega)] at en
        exact iteT (iteT (badN en))
      rw [decide_eq_false h3]
      rw [decide_eq_true (show (1 : Int) ≤ es.length by omega), Bool.true_and] at en
      refine iteF ⟨.ref b, rfl, b, ys, rfl, .inr hS2, _, 12, rfl, rfl, _, rfl, ?_⟩
      rw [hl2]
      by_cases h4 : (12 : Int) < es.length
      · rw [decide_eq_true h4]
        rw [decide_eq_false (show ¬ (es.length : Int) ≤ 12 by omega)] at en
        exact iteT (badN en)
      rw [decide_eq_false h4]
      rw [decide_eq_true (show (es.length : Int) ≤ 12 by omega), Bool.true_and] at en
      refine iteF ⟨.ref b, rfl, b, rfl, ⟨_, hS2⟩, for_tup (K := K) (a := b) (xs := ys) (fun i σ H1 => (∃ m2, σ = [some (.ref a), some (.ref b), m2]) ∧ H1 = H' ∧ (es.take i).all (isMove ds.length) = true)
        ⟨⟨m2, rfl⟩, rfl, rfl⟩ (fun i σ H1 _ p => by rw [p.2.1]; exact hS2) ?_ ?_⟩
      · rintro j y σ H1 hy ⟨⟨m3, rfl⟩, rfl, ha2⟩
        obtain ⟨dy, hdy, ty⟩ := hs2.get hy
        have bad : isMove ds.length dy = false → Q (.bl false) H1 := fun hb => by rw [all_not hdy hb] at en; exact badN en
        have good : isMove ds.length dy = true → (es.take (j + 1)).all (isMove ds.length) = true := fun hg => all_take hdy ha2 hg
        refine ⟨y, rfl, y, .ty _, _, _, _, rfl, .ty _, ty.ty, ty.kTup, _, rfl, ?_⟩
        cases hn3 : dy.isTup with
        | false => exact iteT (iteT (bad (isMove_tup hn3)))
        | true =>
          obtain ⟨c, zs, gs, rfl, rfl, hS3, hs3⟩ := ty.tupOf hn3
          refine iteF ⟨.ref c, rfl, c, zs, rfl, .inr hS3, rfl, _, rfl, ?_⟩
          by_cases h5 : gs.length = 2
          · obtain ⟨e0, e1, rfl⟩ : ∃ e0 e1, gs = [e0, e1] := by
              match gs, h5 with
              | [e0, e1], _ => exact ⟨e0, e1, rfl⟩
            cases hs3 with
            | cons t0 hs4 =>
            cases hs4 with
            | cons t1 hs5 =>
            cases hs5
            rename_i v0 v1
            have em : isMove ds.length (.tup [e0, e1]) = (isInt (-1000000) 1000000 e0 && isInt 0 ((ds.length : Int) - 1) e1) := rfl
            refine iteF ⟨.ref c, rfl, c, _, 0, v0, rfl, rfl, hS3, rfl, 10, 6, rfl, rfl, ⟨by decide, by decide, by decide⟩, _, rfl, 10, 6, rfl, rfl, ⟨by decide, by decide, by decide⟩, v0, -1000000, 1000000, e0, rfl, t0, _, rfl, ?_⟩
            cases hi0 : isInt (-1000000) 1000000 e0 with
            | false =>
              rw [hi0] at em
              exact iteT (bad em)
            | true =>
              rw [hi0, Bool.true_and] at em
              refine iteF ⟨.ref c, rfl, c, _, 1, v1, rfl, rfl, hS3, rfl, .ref a, rfl, a, xs, rfl, .inr hS, _, 1, rfl, rfl, v1, 0, _, e1, rfl, t1, _, rfl, ?_⟩
              rw [hl]
              cases hi1 : isInt 0 ((ds.length : Int) - 1) e1 with
              | false =>
                rw [hi1] at em
                exact iteT (bad em)
              | true =>
                rw [hi1] at em
                exact iteF ⟨⟨_, rfl⟩, rfl, good em⟩
          · have hne : ¬ (V.int (zs.length : Int) = V.int 2) := fun z => by
              have := V.int.inj z
              rw [hs3.len] at this
              omega
            rw [decide_eq_false hne]
            exact iteT (iteT (bad (isMove_len h5)))
      · rintro σ H1 ⟨⟨m3, rfl⟩, rfl, ha2⟩
        rw [hl2, List.take_length] at ha2
        rw [ha2] at en
        exact ⟨⟨_, _, rfl⟩, rfl, goodN en⟩
    · rintro σ H' ⟨⟨m, m2, rfl⟩, rfl, ha⟩
      rw [hl, List.take_length] at ha
      rw [ha] at q'
      exact q'
end
end K01

set_option maxHeartbeats 4000000
namespace K01
open PySem PySem.Spec PyProof.Rows L2 Pd
section
variable {P : Program} {w : World} {K : PySem.W.Frag} {mg : Str → Option Value} {base : Heap} {f : Addr} {fd : FuncData} {k : Nat} {dvs : List V} {kws : List (Str × V)}
theorem sz {n : Nat} (h : n ≤ 100000) : n ≤ sizeLine := Nat.le_of_lt (small_lt h)
abbrev s__law_web : Stmt := topS 11
abbrev N__law_web : List Str := ["_law_hand_here", "_law_most", "_law_many", "_law_size", "_law_found", "_law_node", "_law_moves", "_law_some", "_law_turn"]
theorem sc__law_web : FnScope N__law_web ["_law_hand_here", "_law_most"] (defScope s__law_web) := ⟨rfl, rfl, rfl, by decide +kernel, rfl, by decide +kernel, by decide +kernel⟩

theorem ok_web (F : L2.Fun K "_law_web" "_law_web" s__law_web f fd) (T : Txt mg) (c__law_draw : Fn P w K mg base k "_law_draw" (spDraw 1000000000)) : FnOk P w K mg base CX0 (k + 1) f fd ["_law_hand_here", "_law_most"] (spWeb K) := by
  refine F.ok sc__law_web (fun vs H Q E h => ?_) (fun cdv A outer s H vs Q E hr h => ?_)
  · obtain ⟨v, d, rfl, _⟩ := h
    rfl
  obtain ⟨h, most, rfl, hk, m1, m2, q⟩ := h
  refine ⟨_, (pss_cons (ps_set (i := 2) sc__law_web.nd rfl (.inl rfl) (pe_op op_add pe_int (pe_f c__law_draw hr (by first | decide | exact Nat.le_refl _ | omega) (by rfl) (pa_cons (pv 0) (pa_cons (pv 1) pa_nil)))))
      (pss_cons (ps_set (i := 3) sc__law_web.nd rfl (.inl rfl) (pe_ix ix_list (pe_lst (pa_cons pe_int (pa_cons pe_int (pa_cons pe_int (pa_cons (pe_op op_add (pe_op op_mul pe_int (pe_op op_pow pe_int pe_int)) pe_int) pa_nil))))) (pe_f c__law_draw hr (by first | decide | exact Nat.le_refl _ | omega) (by rfl) (pa_cons (pv 0) (pa_cons pe_int pa_nil))) (fun _ _ => rfl)))
      (pss_cons (ps_set (i := 4) sc__law_web.nd rfl (.inl rfl) (pe_lst pa_nil))
      (pss_cons (ps_for PassesOwn.never rfl (pi_range1 (by rfl) T.m_range (pa_cons (pv 2) pa_nil)) (pg_name (i := 5) sc__law_web.nd rfl (.inl rfl)) (pss_cons (ps_set (i := 6) sc__law_web.nd rfl (.inl rfl) (pe_lst pa_nil))
      (pss_cons (ps_set (i := 7) sc__law_web.nd rfl (.inl rfl) (pe_ix ix_list (pe_lst (pa_cons (pe_op op_add pe_int (pe_f c__law_draw hr (by first | decide | exact Nat.le_refl _ | omega) (by rfl) (pa_cons (pv 0) (pa_cons pe_int pa_nil)))) (pa_cons (pe_op op_add pe_int (pe_f c__law_draw hr (by first | decide | exact Nat.le_refl _ | omega) (by rfl) (pa_cons (pv 0) (pa_cons pe_int pa_nil)))) pa_nil))) (pe_callTy call_int1 (by rfl) T.m_int (by decide +kernel) (pa_cons (pe_cmpR op_eq (pe_f c__law_draw hr (by first | decide | exact Nat.le_refl _ | omega) (by rfl) (pa_cons (pv 0) (pa_cons pe_int pa_nil))) pe_int (nomark _)) pa_nil)) (fun _ _ => rfl)))
      (pss_cons (ps_for PassesOwn.never rfl (pi_range1 (by rfl) T.m_range (pa_cons (pv 7) pa_nil)) (pg_name (i := 8) sc__law_web.nd rfl (.inl rfl)) (pss_one (ps_expr (pe_bm PySem.F.plainAttrs_list PySem.F.slot_list_append PySem.F.type_list_append mt_append (pv 6) (pa_cons (pe_tup (pa_cons (pe_op op_sub (pe_f c__law_draw hr (by first | decide | exact Nat.le_refl _ | omega) (by rfl) (pa_cons (pv 0) (pa_cons (pv 3) pa_nil))) (pe_op op_fdiv (pv 3) pe_int)) (pa_cons (pe_f c__law_draw hr (by first | decide | exact Nat.le_refl _ | omega) (by rfl) (pa_cons (pv 0) (pa_cons (pv 2) pa_nil))) pa_nil))) pa_nil)))))
      (pss_one (ps_expr (pe_bm PySem.F.plainAttrs_list PySem.F.slot_list_append PySem.F.type_list_append mt_append (pv 4) (pa_cons (pe_callTy call_tuple_of (by rfl) T.m_tuple (by decide +kernel) (pa_cons (pv 6) pa_nil)) pa_nil))))))))
      (pss_one (ps_ret (pe_callTy call_tuple_of (by rfl) T.m_tuple (by decide +kernel) (pa_cons (pv 4) pa_nil)))))))), ?_⟩
  have p6 : (10 : Int) ^ (6 : Int).toNat = 1000000 := by decide
  refine ⟨.ref h, rfl, .int most, rfl, h, most, rfl, hk, by omega, by omega, fun v1 H1 g1 a1 b1 => ⟨1, v1, rfl, rfl, ?_⟩⟩
  have k1 := g1.ok hk
  refine ⟨10, 6, rfl, rfl, ⟨by decide, by decide, by decide⟩, 2, _, rfl, rfl, .inl ⟨by decide, by decide⟩, _, 1, rfl, rfl, sz (by decide), fun l hl => ?_⟩
  have g2 := g1.trans (Go.new (h := h) (o := .lst [.int 3, .int 7, .int 7, .int (2 * 10 ^ (6 : Int).toNat + 1)]) hl)
  refine ⟨.ref h, rfl, h, 4, rfl, g2.ok hk, by decide, by decide, fun v2 H3 g3' a3 b3 => ?_⟩
  have g3 := g2.trans g3'
  obtain ⟨xs, hat, hmem⟩ := pick (xs := [V.int 3, .int 7, .int 7, .int (2 * 10 ^ (6 : Int).toNat + 1)]) a3 b3
  have hsz : ∃ sz : Int, xs = .int sz ∧ 3 ≤ sz ∧ sz ≤ 2000001 := by
    rw [p6] at hmem
    simp only [List.mem_cons, List.not_mem_nil, or_false] at hmem
    rcases hmem with rfl | rfl | rfl | rfl
    · exact ⟨3, rfl, by decide, by decide⟩
    · exact ⟨7, rfl, by decide, by decide⟩
    · exact ⟨7, rfl, by decide, by decide⟩
    · exact ⟨2000001, rfl, by decide, by decide⟩
  obtain ⟨size, rfl, s1, s2⟩ := hsz
  have el : H3 l = some (.lst [.int 3, .int 7, .int 7, .int (2 * 10 ^ (6 : Int).toNat + 1)]) := g3'.fr _ _ (k1.ne_new hl) upd_same
  refine ⟨l, _, v2, .int size, rfl, rfl, SqL.of el, hat, ?_⟩
  -- found = []
  refine ⟨Nat.zero_le _, fun fo hfo => ?_⟩
  have nfo : H fo = none := g3.free hk hfo
  have hne : fo ≠ h := hk.ne_new nfo
  have g4 : Go h H (upd H3 fo (.lst [])) := g3.put nfo
  have many1 : 1 ≤ 1 + v1 := by omega
  -- the outer loop
  refine ⟨.int (1 + v1), rfl, 1 + v1, rfl, by omega, by omega, for_range (lo := 0) (n := (1 + v1).toNat) (fun i σ H' => ∃ (wb : Web) (us : List V) (m5 m6 m7 m8 : Option V), σ = [some (.ref h), some (.int most), some (.int (1 + v1)), some (.int size), some (.ref fo), m5, m6, m7, m8] ∧
      Go h H H' ∧ H' fo = some (.lst us) ∧ TpAll K H' us (wb.map nodeD) ∧ wb.length = i ∧ ∀ nd ∈ wb, OkNode (1 + v1) nd)
    ⟨[], [], none, none, none, none, rfl, g4, upd_same, .nil, rfl, fun _ z => by cases z⟩ ?_ ?_⟩
  · rintro i σ H' hi ⟨wb, us, m5, m6, m7, m8, rfl, gA, eus, tus, lw, okw⟩
    -- moves = []
    refine ⟨Nat.zero_le _, fun mo hmo => ?_⟩
    have nmo : H mo = none := gA.free hk hmo
    have mne : mo ≠ h := hk.ne_new nmo
    have mfo : mo ≠ fo := (ne_of_none eus hmo).symm
    have gB : Go h H (upd H' mo (.lst [])) := gA.put nmo
    -- some
    refine ⟨.ref h, rfl, h, 3, rfl, gB.ok hk, by decide, by decide, fun d1 H2 gC' _ _ => ⟨1, d1, rfl, rfl, ?_⟩⟩
    have gC := gB.trans gC'
    refine ⟨.ref h, rfl, h, 9, rfl, gC.ok hk, by decide, by decide, fun d2 H4 gD' _ _ => ⟨4, d2, rfl, rfl, sz (by show 2 ≤ 100000; decide), fun l2 hl2 => ?_⟩⟩
    have gD := gC.trans gD'
    have gE := gD.put (o := .lst [.int (1 + d1), .int (4 + d2)]) (gD.free hk hl2)
    refine ⟨.ref h, rfl, h, 8, rfl, gE.ok hk, by decide, by decide, fun d3 H5 gF' _ _ => ⟨rfl, .inr ⟨_, rfl, ?_⟩⟩⟩
    have gF := gE.trans gF'
    have el2 : H5 l2 = some (.lst [.int (1 + d1), .int (4 + d2)]) := gF'.fr _ _ ((gD.ok hk).ne_new hl2) upd_same
    have hsome : ∃ so : Int, atI [V.int (1 + d1), .int (4 + d2)] (if decide (V.int d3 = V.int 7) = true then 1 else 0) = some (.int so) ∧ 1 ≤ so ∧ so ≤ 12 := by
      split
      · exact ⟨4 + d2, rfl, by omega, by omega⟩
      · exact ⟨1 + d1, rfl, by omega, by omega⟩
    obtain ⟨so, hso, so1, so2⟩ := hsome
    refine ⟨l2, _, _, .int so, rfl, rfl, SqL.of el2, hso, ?_⟩
    have emo : H5 mo = some (.lst []) := by
      refine gF'.fr _ _ mne ?_
      rw [upd_ne (ne_of_none (gD'.fr _ _ mne (gC'.fr _ _ mne upd_same)) hl2)]
      exact gD'.fr _ _ mne (gC'.fr _ _ mne upd_same)
    have keep : ∀ b o, b ≠ h → b ≠ mo → b ≠ l2 → H' b = some o → H5 b = some o := fun b o h1 h2 h3 e => by
      refine gF'.fr _ _ h1 ?_
      rw [upd_ne h3]
      refine gD'.fr _ _ h1 (gC'.fr _ _ h1 ?_)
      rw [upd_ne h2]
      exact e
    have efo : H5 fo = some (.lst us) := keep fo _ hne mfo.symm (ne_of_none (gD'.fr _ _ hne (gC'.fr _ _ hne (by rw [upd_ne mfo.symm]; exact eus))) hl2) eus
    have le5 : Le H' H5 := ((Le.new hmo).trans (gC'.le (gB.ok hk))).trans ((gD'.le (gC.ok hk)).trans ((Le.new hl2).trans (gF'.le (gE.ok hk))))
    -- the inner loop
    refine ⟨.int so, rfl, so, rfl, by omega, by omega, for_range (lo := 0) (n := so.toNat) (fun j σ H' => ∃ (nd : List (Int × Int)) (ys : List V) (m8 : Option V), σ = [some (.ref h), some (.int most), some (.int (1 + v1)), some (.int size), some (.ref fo), some (.int (0 + i)), some (.ref mo), some (.int so), m8] ∧
        Go h H H' ∧ H' fo = some (.lst us) ∧ TpAll K H' us (wb.map nodeD) ∧ H' mo = some (.lst ys) ∧ TpAll K H' ys (nd.map moveD) ∧ nd.length = j ∧ ∀ m ∈ nd, OkMove (1 + v1) m)
      ⟨[], [], m8, rfl, gF, efo, tus.mono le5, emo, .nil, rfl, fun _ z => by cases z⟩ ?_ ?_⟩
    · rintro j σ H6 hj ⟨nd, ys, n8, rfl, gG, efo, tus, emo, tys, ln, okn⟩
      refine ⟨.ref mo, rfl, .inl ⟨rfl, _, SqL.of emo⟩, .ref h, rfl, .int size, rfl, h, size, rfl, gG.ok hk, by omega, by omega, fun x1 H7 gH' xa xb => ?_⟩
      have gH := gG.trans gH'
      refine ⟨.int size, rfl, size, 2, rfl, rfl, ⟨by decide, by decide⟩, x1, _, rfl, rfl, .ref h, rfl, .int (1 + v1), rfl, h, 1 + v1, rfl, gH.ok hk, by omega, by omega, fun x2 H8 gI' ya yb => ?_⟩
      have gI := gH.trans gI'
      refine ⟨sz (by show 2 ≤ 100000; decide), fun tp htp => ?_⟩
      have le8 : Le H6 (upd H8 tp (.tup [.int (x1 - size / 2), .int x2])) := ((gH'.le (gG.ok hk)).trans (gI'.le (gH.ok hk))).trans (Le.new htp)
      have emo8 : upd H8 tp (.tup [.int (x1 - size / 2), .int x2]) mo = some (.lst ys) := by
        rw [upd_ne (ne_of_none (gI'.fr _ _ mne (gH'.fr _ _ mne emo)) htp)]
        exact gI'.fr _ _ mne (gH'.fr _ _ mne emo)
      have lys : ys.length = j := by rw [tys.len, List.length_map, ln]
      refine ⟨mo, ys, _, rfl, rfl, emo8, small_lt (by omega), ?_⟩
      have leM : Le (upd H8 tp (.tup [.int (x1 - size / 2), .int x2])) (upd (upd H8 tp (.tup [.int (x1 - size / 2), .int x2])) mo (.lst (ys ++ [.ref tp]))) := Le.put emo8
      refine ⟨nd ++ [(x1 - size / 2, x2)], ys ++ [.ref tp], _, rfl, (gI.put (gI.free hk htp)).put nmo, ?_, tus.mono (le8.trans leM), upd_same, ?_, by rw [List.length_append, ln]; rfl, ?_⟩
      · rw [upd_ne mfo.symm, upd_ne (ne_of_none (gI'.fr _ _ hne (gH'.fr _ _ hne efo)) htp)]
        exact gI'.fr _ _ hne (gH'.fr _ _ hne efo)
      · rw [List.map_append]
        exact (tys.mono (le8.trans leM)).append (.cons ((Tp.tup (SqT.of upd_same) (.cons (.int _) (.cons (.int _) .nil))).mono leM) .nil)
      · intro m hm
        rw [List.mem_append] at hm
        rcases hm with hm | hm
        · exact okn m hm
        · rw [List.mem_singleton] at hm
          subst hm
          exact ⟨by show -1000000 ≤ x1 - size / 2; omega, by show x1 - size / 2 ≤ 1000000; omega, ya, yb⟩
    · rintro σ H6 ⟨nd, ys, n8, rfl, gG, efo, tus, emo, tys, ln, okn⟩
      refine ⟨.ref fo, rfl, .inl ⟨rfl, _, SqL.of efo⟩, .ref mo, rfl, mo, ys, rfl, .inl ⟨SqL.of emo, fun tp htp => ?_⟩⟩
      have efo8 : upd H6 tp (.tup ys) fo = some (.lst us) := by rw [upd_ne (ne_of_none efo htp)]; exact efo
      have lus : us.length = i := by rw [tus.len, List.length_map, lw]
      refine ⟨fo, us, _, rfl, rfl, efo8, small_lt (by omega), ?_⟩
      have leM : Le (upd H6 tp (.tup ys)) (upd (upd H6 tp (.tup ys)) fo (.lst (us ++ [.ref tp]))) := Le.put efo8
      refine ⟨wb ++ [nd], us ++ [.ref tp], _, _, _, _, rfl, (gG.put (gG.free hk htp)).put nfo, upd_same, ?_, by rw [List.length_append, lw]; rfl, ?_⟩
      · rw [List.map_append]
        exact (tus.mono ((Le.new htp).trans leM)).append (.cons ((Tp.tup (SqT.of upd_same) (tys.mono (Le.new htp))).mono leM) .nil)
      · intro n hn
        rw [List.mem_append] at hn
        rcases hn with hn | hn
        · exact okw n hn
        · rw [List.mem_singleton] at hn
          subst hn
          exact ⟨by omega, by omega, okn⟩
  · rintro σ H' ⟨wb, us, m5, m6, m7, m8, rfl, gA, eus, tus, lw, okw⟩
    refine ⟨.ref fo, rfl, fo, us, rfl, .inl ⟨SqL.of eus, fun tp htp => ?_⟩⟩
    have eN : (1 + v1 : Int) = (wb.length : Int) := by omega
    refine q _ _ wb (gA.put (gA.free hk htp)) (.tup (SqT.of upd_same) (tus.mono (Le.new htp))) ⟨by omega, by omega, ?_⟩ (by omega)
    rw [← eN]
    exact okw
end
end K01

set_option maxHeartbeats 4000000
namespace K01
open PySem PySem.Spec PyProof.Rows L2 Pd
/-- some datum, the hand alone changed -/
def spOdd (K : PySem.W.Frag) : Sp := fun vs H Q _ => ∃ (h : Addr) (many : Int), vs = [.ref h, .int many] ∧ HandOk H h ∧ ∀ v H' d, Go h H H' → Tp K H' v d → Q v H'
def spPut (K : PySem.W.Frag) : Sp := fun vs H Q _ => ∃ (h : Addr) (r m : V) (ds : List D) (d : D), vs = [.ref h, r, m] ∧ HandOk H h ∧ Tp K H r (.tup ds) ∧ ds.length ≤ 1000 ∧ Tp K H m d ∧ ∀ v H' d, Go h H H' → Tp K H' v d → Q v H'
section
variable {P : Program} {w : World} {K : PySem.W.Frag} {mg : Str → Option Value} {base : Heap} {f : Addr} {fd : FuncData} {k : Nat} {dvs : List V} {kws : List (Str × V)}
local macro_rules | `(tactic| walk_at "evas") => `(tactic| (repeat (first
  | with_reducible exact eas_nil | with_reducible apply eas_cons | with_reducible exact ea_non | with_reducible exact ea_bl | with_reducible exact ea_str
  | with_reducible exact ea_int ei_c | with_reducible apply ea_tup | with_reducible apply ea_lst | with_reducible apply ea_int | with_reducible exact ei_c
  | ((with_reducible apply ei_var); exact rfl) | with_reducible apply ei_neg | with_reducible apply ei_op0 | with_reducible apply ei_op | decide | exact ⟨by decide, by decide, by decide⟩)))
abbrev s__law_odd : Stmt := topS 14
abbrev N__law_odd : List Str := ["_law_hand_here", "_law_many", "_law_odd_here"]
theorem sc__law_odd : FnScope N__law_odd ["_law_hand_here", "_law_many"] (defScope s__law_odd) := ⟨rfl, rfl, rfl, by decide +kernel, rfl, by decide +kernel, by decide +kernel⟩

theorem ok_odd (F : L2.Fun K "_law_odd" "_law_odd" s__law_odd f fd) (T : Txt mg) (c__law_draw : Fn P w K mg base k "_law_draw" (spDraw 1000000000)) : FnOk P w K mg base CX0 (k + 1) f fd ["_law_hand_here", "_law_many"] (spOdd K) := by
  refine F.ok sc__law_odd (fun vs H Q E h => ?_) (fun cdv A outer s H vs Q E hr h => ?_)
  · obtain ⟨v, d, rfl, _⟩ := h
    rfl
  obtain ⟨h, many, rfl, hk, q⟩ := h
  refine ⟨_, (pss_cons (ps_set (i := 2) sc__law_odd.nd rfl (.inl rfl) (pe_lst (pa_cons pe_non (pa_cons pe_bl (pa_cons pe_int (pa_cons (pe_un un_neg pe_int) (pa_cons pe_str (pa_cons (pe_tup pa_nil) (pa_cons (pe_lst pa_nil) (pa_cons (pe_tup (pa_cons pe_int pa_nil)) (pa_cons (pe_tup (pa_cons pe_int (pa_cons pe_int pa_nil))) (pa_cons (pe_tup (pa_cons pe_int (pa_cons (pv 1) pa_nil))) (pa_cons (pe_tup (pa_cons pe_int (pa_cons (pe_un un_neg pe_int) pa_nil))) (pa_cons (pe_tup (pa_cons (pe_op op_add (pe_op op_pow pe_int pe_int) pe_int) (pa_cons pe_int pa_nil))) (pa_cons (pe_tup (pa_cons (pe_op op_sub (pe_un un_neg (pe_op op_pow pe_int pe_int)) pe_int) (pa_cons pe_int pa_nil))) pa_nil)))))))))))))))
      (pss_cons (ps_set (i := 2) sc__law_odd.nd rfl (.inl rfl) (pe_op op_cat (pv 2) (pe_lst (pa_cons (pe_tup (pa_cons (pe_op op_pow pe_int pe_int) (pa_cons (pe_op op_sub (pv 1) pe_int) pa_nil))) (pa_cons (pe_tup (pa_cons (pe_un un_neg (pe_op op_pow pe_int pe_int)) (pa_cons pe_int pa_nil))) (pa_cons (pe_tup (pa_cons pe_int (pa_cons pe_bl pa_nil))) (pa_cons (pe_tup (pa_cons pe_bl (pa_cons pe_int pa_nil))) (pa_cons (pe_lst (pa_cons pe_int (pa_cons pe_int pa_nil))) (pa_cons (pe_tup (pa_cons pe_int (pa_cons pe_int (pa_cons pe_int pa_nil)))) (pa_cons (pe_tup (pa_cons (pe_tup (pa_cons pe_int (pa_cons pe_int pa_nil))) pa_nil)) (pa_cons (pe_tup (pa_cons pe_str (pa_cons pe_int pa_nil))) pa_nil)))))))))))
      (pss_one (ps_ret (pe_ix ix_list (pv 2) (pe_f c__law_draw hr (by first | decide | exact Nat.le_refl _ | omega) (by rfl) (pa_cons (pv 0) (pa_cons (pe_callB call_len_seq (by rfl) T.m_len PySem.boot_len (pa_cons (pv 2) pa_nil)) pa_nil))) (fun _ _ => rfl)))))), ?_⟩
  refine r_asg (r_lst ?_)
  refine (show EvAs K 13 _ _ by walk_at "evas") H _ fun vs1 H1 ds1 s1 t1 l1 => ⟨szl (by omega), fun la ha => ?_⟩
  refine r_asg (r_op (r_var (v := .ref la) rfl (r_lst ?_)))
  refine (show EvAs K 8 _ _ by walk_at "evas") _ _ fun vs2 H2 ds2 s2 t2 l2 => ⟨szl (by omega), fun lb hb => ?_⟩
  have ela : upd H2 lb (.lst vs2) la = some (.lst vs1) := by
    rw [upd_ne (ne_of_none (s2 _ _ upd_same) hb)]
    exact s2 _ _ upd_same
  refine ⟨la, lb, vs1, vs2, rfl, rfl, ela, upd_same, szl (by omega), fun lc hc => ?_⟩
  have tl : TpAll K (upd (upd H2 lb (.lst vs2)) lc (.lst (vs1 ++ vs2))) (vs1 ++ vs2) (ds1 ++ ds2) :=
    (((t1.mono (Le.new ha)).mono (Le.of s2)).append t2).mono ((Le.new hb).trans (Le.new hc))
  have sA : Same H (upd (upd H2 lb (.lst vs2)) lc (.lst (vs1 ++ vs2))) := ((s1.trans (Same.new ha)).trans s2).trans ((Same.new hb).trans (Same.new hc))
  refine ⟨.ref lc, rfl, .ref h, rfl, .ref lc, rfl, lc, _, rfl, .inl (SqL.of upd_same), h, _, rfl, hk.same sA, ?_, ?_, fun x H3 g3 xa xb => ?_⟩
  · rw [List.length_append]; omega
  · rw [List.length_append]; omega
  obtain ⟨y, hy, hy2⟩ := pickI xa xb
  have tl3 := tl.mono (g3.le (hk.same sA))
  obtain ⟨dy, _, ty⟩ := tl3.get hy2
  refine ⟨lc, _, x, y, rfl, rfl, SqL.of (g3.fr _ _ ((hk.same (((s1.trans (Same.new ha)).trans s2).trans (Same.new hb))).ne_new hc) upd_same), hy, ?_⟩
  exact q _ _ _ ((Go.same sA).trans g3) ty
end
end K01

set_option maxHeartbeats 4000000
namespace K01
open PySem PySem.Spec PyProof.Rows L2 Pd
section
variable {P : Program} {w : World} {K : PySem.W.Frag} {mg : Str → Option Value} {base : Heap} {f : Addr} {fd : FuncData} {k : Nat} {dvs : List V} {kws : List (Str × V)}
abbrev s__law_put : Stmt := topS 15
abbrev N__law_put : List Str := ["_law_hand_here", "_law_row", "_law_more", "_law_at", "_law_way"]
theorem sc__law_put : FnScope N__law_put ["_law_hand_here", "_law_row", "_law_more"] (defScope s__law_put) := ⟨rfl, rfl, rfl, by decide +kernel, rfl, by decide +kernel, by decide +kernel⟩

theorem ok_put (F : L2.Fun K "_law_put" "_law_put" s__law_put f fd) (T : Txt mg) (c__law_draw : Fn P w K mg base k "_law_draw" (spDraw 1000000000)) : FnOk P w K mg base CX0 (k + 1) f fd ["_law_hand_here", "_law_row", "_law_more"] (spPut K) := by
  refine F.ok sc__law_put (fun vs H Q E h => ?_) (fun cdv A outer s H vs Q E hr h => ?_)
  · obtain ⟨h, r, m, ds, d, rfl, _⟩ := h
    rfl
  obtain ⟨h, r, m, ds, d, rfl, hk, tr, hl, tm, q⟩ := h
  refine ⟨_, (pss_cons (ps_par (i := 3) (j := 4) (by rfl) sc__law_put.nd rfl rfl (by decide) rfl rfl (pa_cons (pe_f c__law_draw hr (by first | decide | exact Nat.le_refl _ | omega) (by rfl) (pa_cons (pv 0) (pa_cons (pe_op op_add (pe_callB call_len_seq (by rfl) T.m_len PySem.boot_len (pa_cons (pv 1) pa_nil)) pe_int) pa_nil))) (pa_cons (pe_f c__law_draw hr (by first | decide | exact Nat.le_refl _ | omega) (by rfl) (pa_cons (pv 0) (pa_cons pe_int pa_nil))) pa_nil)) (by rfl))
      (pss_cons (ps_if (pt_cmpR op_eq (pv 4) pe_int (nomark _)) (pss_one (ps_ret (pe_op op_catA (pe_op op_catA (pe_slice sl_tupA (pv 1) po_none (po_some (pv 3))) (pe_tup (pa_cons (pv 2) pa_nil))) (pe_slice sl_tupA (pv 1) (po_some (pe_op op_add (pv 3) pe_int)) po_none)))) pss_nil)
      (pss_cons (ps_if (pt_cmpR op_eq (pv 4) pe_int (nomark _)) (pss_one (ps_ret (pe_op op_catA (pe_op op_catA (pe_slice sl_tupA (pv 1) po_none (po_some (pv 3))) (pe_tup (pa_cons (pv 2) pa_nil))) (pe_slice sl_tupA (pv 1) (po_some (pv 3)) po_none)))) pss_nil)
      (pss_cons (ps_if (pt_cmpR op_eq (pv 4) pe_int (nomark _)) (pss_one (ps_ret (pe_op op_catA (pe_slice sl_tupA (pv 1) po_none (po_some (pv 3))) (pe_slice sl_tupA (pv 1) (po_some (pe_op op_add (pv 3) pe_int)) po_none)))) pss_nil)
      (pss_cons (ps_if (pt_cmpR op_eq (pv 4) pe_int (nomark _)) (pss_one (ps_ret (pe_op op_catA (pe_op op_catA (pe_slice sl_tupA (pv 1) po_none (po_some (pv 3))) (pe_revT (pe_slice sl_tupA (pv 1) (po_some (pv 3)) (po_some (pe_op op_add (pv 3) pe_int))))) (pe_slice sl_tupA (pv 1) (po_some (pe_op op_add (pv 3) pe_int)) po_none)))) pss_nil)
      (pss_one (ps_ret (pe_callTy call_list_of (by rfl) T.m_list (by decide +kernel) (pa_cons (pv 1) pa_nil))))))))), ?_⟩
  obtain ⟨a, xs, rfl, hS, hs⟩ := tr.sq
  have el := hs.len
  refine ⟨.ref h, rfl, .ref a, rfl, a, xs, rfl, .inr hS, _, 1, rfl, rfl, h, _, rfl, hk, by omega, by omega, fun x1 H1 g1 _ _ => ⟨.ref h, rfl, h, 5, rfl, g1.ok hk, by decide, by decide, fun x2 H2 g2' _ _ => ⟨_, _, rfl, ?_⟩⟩⟩
  have g2 := g1.trans g2'
  have le2 : Le H H2 := g2.le hk
  have fin : ∀ v H' d, Same H2 H' → Tp K H' v d → Q v H' := fun v H' d s t => q v H' d (g2.trans (Go.same s)) t
  have tr2 : Tp K H2 (.ref a) (.tup ds) := tr.mono le2
  have tm2 : Tp K H2 m d := tm.mono le2
  refine ⟨.int x2, rfl, rfl, _, rfl, ite2 (fun _ => ?_) (fun _ => ?_)⟩
  · exact (et_cat (hz := by omega) (et_cat (hz := by omega) (et_sl (et_var rfl tr2 (Nat.zero_le _) (Nat.le_refl _)) eo_no (eo_int (ei_var rfl))) (et_one (ed_var rfl tm2))) (et_sl (et_var rfl tr2 (Nat.zero_le _) (Nat.le_refl _)) (eo_int (ei_op0 (ei_var rfl) ei_c)) eo_no)).ed H2 (Same.refl _) _ fin
  refine ⟨.int x2, rfl, rfl, _, rfl, ite2 (fun _ => ?_) (fun _ => ?_)⟩
  · exact (et_cat (hz := by omega) (et_cat (hz := by omega) (et_sl (et_var rfl tr2 (Nat.zero_le _) (Nat.le_refl _)) eo_no (eo_int (ei_var rfl))) (et_one (ed_var rfl tm2))) (et_sl (et_var rfl tr2 (Nat.zero_le _) (Nat.le_refl _)) (eo_int (ei_var rfl)) eo_no)).ed H2 (Same.refl _) _ fin
  refine ⟨.int x2, rfl, rfl, _, rfl, ite2 (fun _ => ?_) (fun _ => ?_)⟩
  · exact (et_cat (hz := by omega) (et_sl (et_var rfl tr2 (Nat.zero_le _) (Nat.le_refl _)) eo_no (eo_int (ei_var rfl))) (et_sl (et_var rfl tr2 (Nat.zero_le _) (Nat.le_refl _)) (eo_int (ei_op0 (ei_var rfl) ei_c)) eo_no)).ed H2 (Same.refl _) _ fin
  refine ⟨.int x2, rfl, rfl, _, rfl, ite2 (fun _ => ?_) (fun _ => ?_)⟩
  · exact (et_cat (hz := by omega) (et_cat (hz := by omega) (et_sl (et_var rfl tr2 (Nat.zero_le _) (Nat.le_refl _)) eo_no (eo_int (ei_var rfl))) (et_rev (et_sl (et_var rfl tr2 (Nat.zero_le _) (Nat.le_refl _)) (eo_int (ei_var rfl)) (eo_int (ei_op0 (ei_var rfl) ei_c))))) (et_sl (et_var rfl tr2 (Nat.zero_le _) (Nat.le_refl _)) (eo_int (ei_op0 (ei_var rfl) ei_c)) eo_no)).ed H2 (Same.refl _) _ fin
  · exact (ed_list (et_var rfl tr2 (Nat.zero_le _) (Nat.le_refl _))) H2 (Same.refl _) _ fin
end
end K01

set_option maxHeartbeats 4000000
namespace K01
open PySem PySem.Spec PyProof.Rows L2 Pd
def spBent (K : PySem.W.Frag) : Sp := fun vs H Q _ => ∃ (h : Addr) (v : V) (wb : Web), vs = [.ref h, v] ∧ HandOk H h ∧ Tp K H v (webD wb) ∧ OkWeb wb ∧ ∀ v H' d, Go h H H' → Tp K H' v d → Q v H'
theorem et_ix {K : PySem.W.Frag} {σ : L2.St} {H : Hp} {i j : Nat} {a : Addr} {xs : List V} {x : Int} {y : V} {es : List D} {lo hi : Nat} (e1 : σ[i]? = some (some (.ref a))) (e2 : σ[j]? = some (some (.int x))) (hS : SqT K H a xs) (hx : atI xs x = some y) (ty : Tp K H y (.tup es)) (h1 : lo ≤ es.length) (h2 : es.length ≤ hi) :
    EvT K lo hi (tOp (rIxT K) (tVar i) (tVar j)) σ H := fun H1 s Q q => ⟨_, e1, _, e2, a, xs, x, y, rfl, rfl, (Le.of s).sqT hS, hx, q y H1 es (Same.refl _) (ty.mono (Le.of s)) h1 h2⟩
section
variable {P : Program} {w : World} {K : PySem.W.Frag} {mg : Str → Option Value} {base : Heap} {f : Addr} {fd : FuncData} {k : Nat} {dvs : List V} {kws : List (Str × V)}
abbrev s__law_bent : Stmt := topS 16
abbrev N__law_bent : List Str := ["_law_hand_here", "_law_web_here", "_law_at", "_law_more", "_law_way", "_law_node", "_law_move"]
theorem sc__law_bent : FnScope N__law_bent ["_law_hand_here", "_law_web_here"] (defScope s__law_bent) := ⟨rfl, rfl, rfl, by decide +kernel, rfl, by decide +kernel, by decide +kernel⟩

theorem ok_bent (F : L2.Fun K "_law_bent" "_law_bent" s__law_bent f fd) (T : Txt mg) (c__law_draw : Fn P w K mg base k "_law_draw" (spDraw 1000000000)) (c__law_odd : Fn P w K mg base k "_law_odd" (spOdd K)) (c__law_put : Fn P w K mg base k "_law_put" (spPut K)) : FnOk P w K mg base CX0 (k + 1) f fd ["_law_hand_here", "_law_web_here"] (spBent K) := by
  refine F.ok sc__law_bent (fun vs H Q E h => ?_) (fun cdv A outer s H vs Q E hr h => ?_)
  · obtain ⟨h, r, wb, rfl, _⟩ := h
    rfl
  obtain ⟨h, v, wb, rfl, hk, tw, okw, q⟩ := h
  refine ⟨_, (pss_cons (ps_asg (pe_tup (pa_cons (pe_f c__law_draw hr (by first | decide | exact Nat.le_refl _ | omega) (by rfl) (pa_cons (pv 0) (pa_cons (pe_callB call_len_seq (by rfl) T.m_len PySem.boot_len (pa_cons (pv 1) pa_nil)) pa_nil))) (pa_cons (pe_f c__law_odd hr (by first | decide | exact Nat.le_refl _ | omega) (by rfl) (pa_cons (pv 0) (pa_cons (pe_callB call_len_seq (by rfl) T.m_len PySem.boot_len (pa_cons (pv 1) pa_nil)) pa_nil))) pa_nil))) (pg_tup rfl (pgs_cons (pg_name (i := 2) sc__law_bent.nd rfl (.inl rfl)) (pgs_cons (pg_name (i := 3) sc__law_bent.nd rfl (.inr rfl)) pgs_nil))))
      (pss_cons (ps_set (i := 4) sc__law_bent.nd rfl (.inl rfl) (pe_f c__law_draw hr (by first | decide | exact Nat.le_refl _ | omega) (by rfl) (pa_cons (pv 0) (pa_cons pe_int pa_nil))))
      (pss_cons (ps_if (pt_cmpR op_eq (pv 4) pe_int (nomark _)) (pss_one (ps_ret (pe_f c__law_put hr (by first | decide | exact Nat.le_refl _ | omega) (by rfl) (pa_cons (pv 0) (pa_cons (pv 1) (pa_cons (pv 3) pa_nil)))))) pss_nil)
      (pss_cons (ps_set (i := 5) sc__law_bent.nd rfl (.inl rfl) (pe_f c__law_put hr (by first | decide | exact Nat.le_refl _ | omega) (by rfl) (pa_cons (pv 0) (pa_cons (pe_ix ix_tup (pv 1) (pv 2) (fun _ _ => rfl)) (pa_cons (pv 3) pa_nil)))))
      (Evl.pss_cut (ps_if (pt_cmpR op_eq (pv 4) pe_int (nomark _)) (pss_one (ps_set (i := 5) sc__law_bent.nd rfl (.inl rfl) (pe_op op_catA (pe_op op_repT (pe_ix ix_tup (pv 1) (pv 2) (fun _ _ => rfl)) pe_int) (pe_slice sl_tupA (pe_ix ix_tup (pv 1) (pv 2) (fun _ _ => rfl)) po_none (po_some pe_int))))) pss_nil)
      (Evl.pss_cut (ps_if (pt_cmpR op_eq (pv 4) pe_int (nomark _)) (pss_one (ps_set (i := 5) sc__law_bent.nd rfl (.inl rfl) (pe_callTy call_tuple_of (by rfl) T.m_tuple (by decide +kernel) (pa_cons (pe_lc (own := [("_law_move", 6)]) (g := gName 6)  rfl sc__law_bent.nd (pi_tup (pe_ix ix_tup (pv 1) (pv 2) (fun _ _ => rfl))) (blkOk_by (own := [("_law_move", 6)]) (N := N__law_bent) (sc := defScope s__law_bent) (by decide +kernel)) (fun _ _ _ _ _ => pg_name (i := 6) sc__law_bent.nd rfl (.inl rfl)) (fun _ _ _ _ _ => pts_nil) (fun _ _ _ _ _ => (pe_f c__law_put hr (by first | decide | exact Nat.le_refl _ | omega) (by rfl) (pa_cons (pv 0) (pa_cons (pv 6) (pa_cons (pv 3) pa_nil)))))) pa_nil)))) pss_nil)
      (Evl.pss_cut (ps_if (pt_cmpR op_eq (pv 4) pe_int (nomark _)) (pss_one (ps_set (i := 5) sc__law_bent.nd rfl (.inl rfl) (pe_op op_repT (pe_slice sl_tupA (pe_ix ix_tup (pv 1) (pv 2) (fun _ _ => rfl)) po_none (po_some pe_int)) (pe_ix ix_list (pe_lst (pa_cons pe_int (pa_cons pe_int pa_nil))) (pe_f c__law_draw hr (by first | decide | exact Nat.le_refl _ | omega) (by rfl) (pa_cons (pv 0) (pa_cons pe_int pa_nil))) (fun _ _ => rfl))))) pss_nil)
      (pss_one (ps_ret (pe_op op_catA (pe_op op_catA (pe_slice sl_tupA (pv 1) po_none (po_some (pv 2))) (pe_tup (pa_cons (pv 5) pa_nil))) (pe_slice sl_tupA (pv 1) (po_some (pe_op op_add (pv 2) pe_int)) po_none))))))))))), ?_⟩
  obtain ⟨a, xs, rfl, hS, hs⟩ := tw.sq
  have el : xs.length = wb.length := by rw [hs.len, List.length_map]
  obtain ⟨w1, w2, w3⟩ := okw
  -- at, more
  refine ⟨.ref h, rfl, .ref a, rfl, a, xs, rfl, .inr hS, h, _, rfl, hk, by omega, by omega, fun x1 H1 g1 a1 b1 => ?_⟩
  refine ⟨.ref h, rfl, .ref a, rfl, a, xs, rfl, .inr ((g1.le hk).sqT hS), h, _, rfl, g1.ok hk, fun m H2 dm g2' tm => ⟨szl (by show 2 ≤ 100000; decide), fun tp htp => ?_⟩⟩
  have g2 := g1.trans g2'
  have g3 : Go h H (upd H2 tp (.tup [.int x1, m])) := g2.put (g2.free hk htp)
  refine ⟨tp, _, rfl, SqT.of upd_same, rfl, .int x1, [m], rfl, m, [], rfl, rfl, ?_⟩
  -- way
  refine ⟨.ref h, rfl, h, 5, rfl, g3.ok hk, by decide, by decide, fun x2 H4 g4' _ _ => ?_⟩
  have g4 := g3.trans g4'
  have tm4 : Tp K H4 m dm := tm.mono ((Le.new htp).trans (g4'.le (g3.ok hk)))
  have le4 := g4.le hk
  refine ⟨.int x2, rfl, rfl, _, rfl, ite2 (fun _ => ?_) (fun _ => ?_)⟩
  · refine ⟨.ref h, rfl, .ref a, rfl, m, rfl, h, .ref a, m, _, dm, rfl, g4.ok hk, tw.mono le4, by rw [List.length_map]; omega, tm4, fun v H5 d g5 t5 => q v H5 d (g4.trans g5) t5⟩
  -- web[at]
  obtain ⟨y, hat, hy⟩ := pickI (xs := xs) a1 b1
  obtain ⟨dy, hdy, ty⟩ := hs.get hy
  have hnd : ∃ nd, nd ∈ wb ∧ dy = nodeD nd := by
    rw [List.getElem?_map] at hdy
    cases e : wb[x1.toNat]? with
    | none => rw [e] at hdy; cases hdy
    | some nd => rw [e] at hdy; exact ⟨nd, List.mem_of_getElem? e, (Option.some.inj hdy).symm⟩
  obtain ⟨nd, hndm, rfl⟩ := hnd
  obtain ⟨n1, n2, n3⟩ := w3 nd hndm
  have ln : (nd.map moveD).length = nd.length := List.length_map ..
  have node_at : ∀ (H' : Hp) (σ : L2.St), Go h H H' → σ[1]? = some (some (.ref a)) → σ[2]? = some (some (.int x1)) → EvT K 1 12 (tOp (rIxT K) (tVar 1) (tVar 2)) σ H' := fun H' σ g e1 e2 =>
    et_ix e1 e2 ((g.le hk).sqT hS) hat (ty.mono (g.le hk)) (by omega) (by omega)
  refine ⟨.ref h, rfl, .ref a, rfl, .int x1, rfl, a, xs, x1, y, rfl, rfl, le4.sqT hS, hat, m, rfl, h, y, m, _, dm, rfl, g4.ok hk, ty.mono le4, by omega, tm4, fun nv H5 nd5 g5' t5 => ?_⟩
  have g5 := g4.trans g5'
  have tm5 := tm4.mono (g5'.le (g4.ok hk))
  have mid : ∀ (σ : L2.St) (H' : Hp), (∃ (nv : V) (d : D), σ = [some (.ref h), some (.ref a), some (.int x1), some m, some (.int x2), some nv, none] ∧ Go h H H' ∧ Tp K H' nv d ∧ Tp K H' m dm) ↔ (∃ (nv : V) (d : D), σ = [some (.ref h), some (.ref a), some (.int x1), some m, some (.int x2), some nv, none] ∧ Go h H H' ∧ Tp K H' nv d ∧ Tp K H' m dm) := fun _ _ => Iff.rfl
  -- way == 1
  refine ⟨fun σ H' => ∃ (nv : V) (d : D), σ = [some (.ref h), some (.ref a), some (.int x1), some m, some (.int x2), some nv, none] ∧ Go h H H' ∧ Tp K H' nv d ∧ Tp K H' m dm, ?_, ?_⟩
  · refine ⟨.int x2, rfl, rfl, _, rfl, ite2 (fun _ => ?_) (fun _ => ⟨nv, nd5, rfl, g5, t5, tm5⟩)⟩
    exact (et_cat (hz := by decide) (et_rep (i := 4) (hi := 12) (node_at H5 _ g5 rfl rfl) (by decide) (by decide) (by decide) ei_c (by decide)) (et_sl1 (node_at H5 _ g5 rfl rfl))).ed H5 (Same.refl _) _ fun v H6 d s6 t6 =>
      ⟨v, d, rfl, g5.trans (Go.same s6), t6, tm5.mono (Le.of s6)⟩
  rintro σ H6 ⟨nv, d6, rfl, g6, t6, tm6⟩
  -- way == 2
  refine ⟨fun σ H' => ∃ (nv : V) (d : D), σ = [some (.ref h), some (.ref a), some (.int x1), some m, some (.int x2), some nv, none] ∧ Go h H H' ∧ Tp K H' nv d ∧ Tp K H' m dm, ?_, ?_⟩
  · refine ⟨.int x2, rfl, rfl, _, rfl, ite2 (fun _ => ?_) (fun _ => ⟨nv, d6, rfl, g6, t6, tm6⟩)⟩
    obtain ⟨b, ys, rfl, hT, ht⟩ := (ty.mono (g6.le hk)).sq
    have ly : ys.length = nd.length := by rw [ht.len, ln]
    refine ⟨.ref a, rfl, .int x1, rfl, a, xs, x1, .ref b, rfl, rfl, (g6.le hk).sqT hS, hat, b, rfl, ⟨_, hT⟩, fun Dl hD => lc_tup (K := K) (a := b) (xs := ys) (fun i H' => ∃ us es, Go h H H' ∧ Le H6 H' ∧ H' Dl = some (.lst us) ∧ TpAll K H' us es ∧ us.length = i)
      ⟨[], [], g6.put (g6.free hk hD), Le.new hD, upd_same, .nil, rfl⟩ (fun i H' _ p => by obtain ⟨us, es, _, l, _⟩ := p; exact l.sqT hT) ?_ ?_⟩
    · rintro i x H7 hx ⟨us, es, g7, l7, eD, tus, lus⟩
      have hi : i < ys.length := (List.getElem?_eq_some_iff.mp hx).1
      obtain ⟨dx, hdx, tx⟩ := ht.get hx
      have hmv : ∃ mv, dx = moveD mv := by
        rw [List.getElem?_map] at hdx
        cases e : nd[i]? with
        | none => rw [e] at hdx; cases hdx
        | some mv => rw [e] at hdx; exact ⟨mv, (Option.some.inj hdx).symm⟩
      obtain ⟨mv, rfl⟩ := hmv
      have nD : H Dl = none := g6.free hk hD
      refine ⟨rfl, yes_rd ?_⟩
      refine ⟨.ref h, rfl, x, rfl, m, rfl, h, x, m, _, dm, rfl, g7.ok hk, tx.mono l7, (by show 2 ≤ 1000; decide), tm6.mono l7, fun z H8 dz g8' tz => ?_⟩
      have eD8 : H8 Dl = some (.lst us) := g8'.fr _ _ (hk.ne_new nD) eD
      have l8 := g8'.le (g7.ok hk)
      refine ⟨us, eD8, small_lt (by omega), us ++ [z], es ++ [dz], (g7.trans g8').put nD, (l7.trans l8).trans (Le.put eD8), upd_same, ?_, by rw [List.length_append, lus]; rfl⟩
      exact (tus.mono (l8.trans (Le.put eD8))).append (.cons (tz.mono (Le.put eD8)) .nil)
    · rintro H7 ⟨us, es, g7, l7, eD, tus, lus⟩
      refine ⟨Dl, us, rfl, .inl ⟨SqL.of eD, fun tp2 htp2 => ?_⟩⟩
      exact ⟨_, _, rfl, g7.put (g7.free hk htp2), .tup (SqT.of upd_same) (tus.mono (Le.new htp2)), tm6.mono (l7.trans (Le.new htp2))⟩
  rintro σ H7 ⟨nv, d7, rfl, g7, t7, tm7⟩
  -- way == 3
  refine ⟨fun σ H' => ∃ (nv : V) (d : D), σ = [some (.ref h), some (.ref a), some (.int x1), some m, some (.int x2), some nv, none] ∧ Go h H H' ∧ Tp K H' nv d ∧ Tp K H' m dm, ?_, ?_⟩
  · refine ⟨.int x2, rfl, rfl, _, rfl, ite2 (fun _ => ?_) (fun _ => ⟨nv, d7, rfl, g7, t7, tm7⟩)⟩
    refine (et_sl1 (node_at H7 _ g7 rfl rfl)) H7 (Same.refl _) _ fun v8 H8 ds8 s8 t8 c1 c2 => ?_
    refine ⟨szl (by show 2 ≤ 100000; decide), fun lb hlb => ?_⟩
    have g8 := (g7.trans (Go.same s8)).trans (Go.new (h := h) (o := .lst [.int 12, .int 13]) hlb)
    refine ⟨.ref h, rfl, h, 2, rfl, g8.ok hk, by decide, by decide, fun x3 H9 g9' xa xb => ?_⟩
    have g9 := g8.trans g9'
    have e9 : H9 lb = some (.lst [.int 12, .int 13]) := g9'.fr _ _ (((g7.trans (Go.same s8)).ok hk).ne_new hlb) upd_same
    have pk : ∃ n : Int, atI [V.int 12, .int 13] x3 = some (.int n) ∧ (n = 12 ∨ n = 13) := by
      obtain ⟨z, hz, hm⟩ := pick (xs := [V.int 12, .int 13]) xa xb
      simp only [List.mem_cons, List.not_mem_nil, or_false] at hm
      rcases hm with rfl | rfl
      · exact ⟨12, hz, .inl rfl⟩
      · exact ⟨13, hz, .inr rfl⟩
    obtain ⟨n, hn, hn2⟩ := pk
    have le9 : Le H8 H9 := (Le.new hlb).trans (g9'.le (g8.ok hk))
    obtain ⟨b, zs, rfl, hZ, hz⟩ := (t8.mono le9).sq
    have lz := hz.len
    refine ⟨lb, _, x3, .int n, rfl, rfl, SqL.of e9, hn, b, n, zs, rfl, rfl, hZ, fun z => by rw [z, List.length_nil] at lz; omega, by omega, by omega, by omega, fun p hp => ?_⟩
    exact ⟨_, _, rfl, g9.put (g9.free hk hp), .tup (SqT.of upd_same) ((hz.rep n.toNat).mono (Le.new hp)), tm7.mono (((Le.of s8).trans le9).trans (Le.new hp))⟩
  rintro σ H8 ⟨nv, d8, rfl, g8, t8, tm8⟩
  have tw8 := tw.mono (g8.le hk)
  exact (et_cat (hz := by rw [List.length_map]; omega) (et_cat (hz := by rw [List.length_map]; omega) (et_sl (et_var rfl tw8 (Nat.zero_le _) (Nat.le_refl _)) eo_no (eo_int (ei_var rfl))) (et_one (ed_var rfl t8))) (et_sl (et_var rfl tw8 (Nat.zero_le _) (Nat.le_refl _)) (eo_int (ei_op0 (ei_var rfl) ei_c)) eo_no)).ed H8 (Same.refl _) _ fun v H9 d s t => q v H9 d (g8.trans (Go.same s)) t
end
end K01

set_option maxHeartbeats 4000000
namespace K01
open PySem PySem.Spec PyProof.Rows L2 Pd
def spLaw (K : PySem.W.Frag) : Sp := fun vs H Q _ => ∃ (a : Addr) (ns : List Int), vs = [.ref a] ∧ SqL K H a (ns.map V.int) ∧ ns.length ≤ 63 ∧ ∀ H', Q (.bl true) H'
theorem tp3 {K : PySem.W.Frag} {H : Hp} {p1 p2 p3 : Addr} {a b : V} {da db : D} (ta : ∀ H, Tp K H a da) (tb : ∀ H, Tp K H b db) (h2 : upd H p1 (.tup [a, b]) p2 = none) (h3 : upd (upd H p1 (.tup [a, b])) p2 (.tup [.ref p1]) p3 = none) :
    Tp K (upd (upd (upd H p1 (.tup [a, b])) p2 (.tup [.ref p1])) p3 (.tup [.ref p2])) (.ref p3) (.tup [.tup [.tup [da, db]]]) :=
  .tup (SqT.of upd_same) (.cons (Tp.mono (Le.new h3) (.tup (SqT.of upd_same) (.cons (Tp.mono (Le.new h2) (.tup (SqT.of upd_same) (.cons (ta _) (.cons (tb _) .nil)))) .nil))) .nil)
theorem many_web (n : Int) (h : n = 119 ∨ n = 120 ∨ n = 121) : isWeb (.tup (List.replicate n.toNat [D.tup [.tup [.int 0, .int (n - 1)]]]).flatten) = decide (n < 121) := by
  rcases h with rfl | rfl | rfl <;> decide +kernel
section
variable {P : Program} {w : World} {K : PySem.W.Frag} {mg : Str → Option Value} {base : Heap} {f : Addr} {fd : FuncData} {k : Nat} {dvs : List V} {kws : List (Str × V)}
abbrev s_law : Stmt := topS 17
abbrev N_law : List Str := ["_law_script", "_law_hand_here", "_law_turn", "_law_web_here", "_law_step", "_law_bent_here", "_law_told", "_law_odd_here", "_law_many"]
theorem sc_law : FnScope N_law ["_law_script"] (defScope s_law) := ⟨rfl, rfl, rfl, by decide +kernel, rfl, by decide +kernel, by decide +kernel⟩

theorem ok_law (F : L2.Fun K "law" "law" s_law f fd) (T : Txt mg) (c__law_draw : Fn P w K mg base 2 "_law_draw" (spDraw 1000000000)) (c__law_odd : Fn P w K mg base 3 "_law_odd" (spOdd K)) (c__law_bent : Fn P w K mg base 4 "_law_bent" (spBent K))
    (c__law_hand : Fn P w K mg base 1 "_law_hand" (spHand K)) (c__law_web : Fn P w K mg base 3 "_law_web" (spWeb K)) (c_is_web : Fn P w K mg base 3 "is_web" (spIsWeb K)) (c__law_is_web : Fn P w K mg base 2 "_law_is_web" (spIsWeb K))
    (c_is_web_thing : FnK P w K mg base 3 "is_web" ["thing"] (fun vs zs => vs ++ zs) (spIsWeb K)) : FnOk P w K mg base CX0 5 f fd ["_law_script"] (spLaw K) := by
  refine F.ok sc_law (fun vs H Q E h => ?_) (fun cdv A outer s H vs Q E hr h => ?_)
  · obtain ⟨h, r, rfl, _⟩ := h
    rfl
  obtain ⟨a, ns, rfl, hS, hlen, q⟩ := h
  refine ⟨_, (pss_cons (ps_set (i := 1) sc_law.nd rfl (.inl rfl) (pe_f c__law_hand hr (by first | decide | exact Nat.le_refl _ | omega) (by rfl) (pa_cons (pv 0) pa_nil)))
      (pss_cons (ps_for PassesOwn.never rfl (pi_range1 (by rfl) T.m_range (pa_cons (pe_callB (call_max2 rfl) (by rfl) T.m_max (by decide +kernel) (pa_cons pe_int (pa_cons (pe_callB (call_min2 rfl) (by rfl) T.m_min (by decide +kernel) (pa_cons pe_int (pa_cons (pe_callB call_len_seq (by rfl) T.m_len PySem.boot_len (pa_cons (pv 0) pa_nil)) pa_nil))) pa_nil))) pa_nil)) (pg_name (i := 2) sc_law.nd rfl (.inl rfl)) (pss_cons (ps_set (i := 3) sc_law.nd rfl (.inl rfl) (pe_f c__law_web hr (by first | decide | exact Nat.le_refl _ | omega) (by rfl) (pa_cons (pv 1) (pa_cons pe_int pa_nil))))
      (pss_cons (ps_if (PW.pt (pw_or (pt_cmpR op_notBl (pe_f c_is_web hr (by first | decide | exact Nat.le_refl _ | omega) (by rfl) (pa_cons (pv 3) pa_nil)) pe_bl (nomark _)) (pw_or1 (pt_cmpR op_notBl (pe_fk c_is_web_thing hr (by first | decide | exact Nat.le_refl _ | omega) (by rfl) (pk_cons (pv 3) pk_nil)) pe_bl (nomark _))))) (pss_one (ps_ret pe_bl)) pss_nil)
      (pss_cons (ps_for PassesOwn.never rfl (pi_range1 (by rfl) T.m_range (pa_cons pe_int pa_nil)) (pg_name (i := 4) sc_law.nd rfl (.inl rfl)) (pss_cons (ps_set (i := 5) sc_law.nd rfl (.inl rfl) (pe_f c__law_bent hr (by first | decide | exact Nat.le_refl _ | omega) (by rfl) (pa_cons (pv 1) (pa_cons (pv 3) pa_nil))))
      (pss_cons (ps_set (i := 6) sc_law.nd rfl (.inl rfl) (pe_f c_is_web hr (by first | decide | exact Nat.le_refl _ | omega) (by rfl) (pa_cons (pv 5) pa_nil)))
      (pss_one (ps_if (PW.pt (pw_or (pt_not (pt_val (pe_callB call_isi (by rfl) T.m_isinstance (by decide +kernel) (pa_cons (pv 6) (pa_cons (pe_ty (n := "bool") (by rfl) T.m_bool (by decide +kernel)) pa_nil))))) (pw_or (pt_cmpR op_ne (pv 6) (pe_f c__law_is_web hr (by first | decide | exact Nat.le_refl _ | omega) (by rfl) (pa_cons (pv 5) pa_nil)) (nomark _)) (pw_or1 (pt_cmpR op_ne (pe_fk c_is_web_thing hr (by first | decide | exact Nat.le_refl _ | omega) (by rfl) (pk_cons (pv 5) pk_nil)) (pv 6) (nomark _)))))) (pss_one (ps_ret pe_bl)) pss_nil)))))
      (pss_one (ps_for PassesOwn.never rfl (pi_list (pe_lst (pa_cons (pe_f c__law_odd hr (by first | decide | exact Nat.le_refl _ | omega) (by rfl) (pa_cons (pv 1) (pa_cons (pe_callB call_len_seq (by rfl) T.m_len PySem.boot_len (pa_cons (pv 3) pa_nil)) pa_nil))) (pa_cons (pe_callTy call_list_of (by rfl) T.m_list (by decide +kernel) (pa_cons (pv 3) pa_nil)) (pa_cons (pe_disp (pps_cons pe_int (pv 3) pps_nil) (by rfl) (by rfl) (fun z => by cases z) (by decide)) (pa_cons (pe_ix ix_tup (pv 3) pe_int (fun _ _ => rfl)) (pa_cons (pe_tup (pa_cons (pv 3) pa_nil)) pa_nil))))))) (pg_name (i := 7) sc_law.nd rfl (.inl rfl)) (pss_cons (ps_set (i := 6) sc_law.nd rfl (.inl rfl) (pe_f c_is_web hr (by first | decide | exact Nat.le_refl _ | omega) (by rfl) (pa_cons (pv 7) pa_nil)))
      (pss_one (ps_if (PW.pt (pw_or (pt_not (pt_val (pe_callB call_isi (by rfl) T.m_isinstance (by decide +kernel) (pa_cons (pv 6) (pa_cons (pe_ty (n := "bool") (by rfl) T.m_bool (by decide +kernel)) pa_nil))))) (pw_or1 (pt_cmpR op_ne (pv 6) (pe_f c__law_is_web hr (by first | decide | exact Nat.le_refl _ | omega) (by rfl) (pa_cons (pv 7) pa_nil)) (nomark _))))) (pss_one (ps_ret pe_bl)) pss_nil)))))))))
      (pss_cons (ps_if (PW.pt (pw_or (pt_cmpR op_notBl (pe_f c_is_web hr (by first | decide | exact Nat.le_refl _ | omega) (by rfl) (pa_cons (pe_tup (pa_cons (pe_tup (pa_cons (pe_tup (pa_cons pe_int (pa_cons pe_int pa_nil))) pa_nil)) pa_nil)) pa_nil)) pe_bl (nomark _)) (pw_or1 (pt_cmpR op_notBl (pe_f c_is_web hr (by first | decide | exact Nat.le_refl _ | omega) (by rfl) (pa_cons (pe_tup (pa_cons (pe_tup (pa_cons (pe_tup (pa_cons pe_bl (pa_cons pe_int pa_nil))) pa_nil)) pa_nil)) pa_nil)) pe_bl (nomark _))))) (pss_one (ps_ret pe_bl)) pss_nil)
      (pss_cons (ps_if (pt_cmpR op_notBl (pe_f c_is_web hr (by first | decide | exact Nat.le_refl _ | omega) (by rfl) (pa_cons (pe_tup (pa_cons (pe_tup (pa_cons (pe_tup (pa_cons pe_int (pa_cons pe_bl pa_nil))) pa_nil)) pa_nil)) pa_nil)) pe_bl (nomark _)) (pss_one (ps_ret pe_bl)) pss_nil)
      (pss_cons (ps_set (i := 8) sc_law.nd rfl (.inl rfl) (pe_ix ix_list (pe_lst (pa_cons pe_int (pa_cons pe_int (pa_cons pe_int pa_nil)))) (pe_f c__law_draw hr (by first | decide | exact Nat.le_refl _ | omega) (by rfl) (pa_cons (pv 1) (pa_cons pe_int pa_nil))) (fun _ _ => rfl)))
      (pss_cons (ps_set (i := 6) sc_law.nd rfl (.inl rfl) (pe_f c_is_web hr (by first | decide | exact Nat.le_refl _ | omega) (by rfl) (pa_cons (pe_op op_repT (pe_tup (pa_cons (pe_tup (pa_cons (pe_tup (pa_cons pe_int (pa_cons (pe_op op_sub (pv 8) pe_int) pa_nil))) pa_nil)) pa_nil)) (pv 8)) pa_nil)))
      (pss_one (ps_ret (pe_and (pe_callB call_isi (by rfl) T.m_isinstance (by decide +kernel) (pa_cons (pv 6) (pa_cons (pe_ty (n := "bool") (by rfl) T.m_bool (by decide +kernel)) pa_nil))) (pe_one (pe_cmpR op_eq (pv 6) (pe_cmpR op_lt (pv 8) pe_int (nomark _)) (nomark _)))))))))))), ?_⟩
  refine ⟨.ref a, rfl, a, ns, rfl, hS, fun h H1 s1 nh hk => ?_⟩
  refine ⟨.ref a, rfl, a, _, rfl, .inl (s1.seq hS), 5, _, rfl, 1, _, rfl, _, rfl, ?_, ?_, for_range (lo := 0) (fun i σ H' => (∃ m2 m3 m4 m5 m6 m7 m8, σ = [some (.ref a), some (.ref h), m2, m3, m4, m5, m6, m7, m8]) ∧ HandOk H' h)
    ⟨⟨none, none, none, none, none, none, none, rfl⟩, hk⟩ ?_ ?_⟩
  · rw [List.length_map]; split <;> split <;> omega
  · rw [List.length_map]; split <;> split <;> omega
  · rintro i σ H2 hi ⟨⟨m2, m3, m4, m5, m6, m7, m8, rfl⟩, hk2⟩
    -- the web
    refine ⟨.ref h, rfl, h, 6, rfl, hk2, by decide, by decide, fun v H3 wb g3 tw okw lw => ?_⟩
    have hk3 := g3.ok hk2
    have ew : isWeb (webD wb) = true := isWeb_ok okw
    refine ⟨v, rfl, v, _, rfl, tw, fun H4 s4 => ⟨_, true, rfl, rfl, _, rfl, ?_⟩⟩
    rw [ew]
    refine iteF ⟨v, rfl, rfl, rfl, v, _, rfl, tw.mono (Le.of s4), fun H5 s5 => ⟨_, true, rfl, rfl, _, rfl, ?_⟩⟩
    rw [ew]
    refine iteF ?_
    have s35 := s4.trans s5
    -- bent ones
    refine ⟨12, rfl, by decide, by decide, for_range (lo := 0) (n := 12) (fun j σ H' => (∃ m4 m5 m6 m7 m8, σ = [some (.ref a), some (.ref h), some (.int (0 + i)), some v, m4, m5, m6, m7, m8]) ∧ HandOk H' h ∧ Tp K H' v (webD wb))
      ⟨⟨m4, m5, m6, m7, m8, rfl⟩, hk3.same s35, tw.mono (Le.of s35)⟩ ?_ ?_⟩
    · rintro j σ H6 hj ⟨⟨n4, n5, n6, n7, n8, rfl⟩, hk6, tw6⟩
      refine ⟨.ref h, rfl, v, rfl, h, v, wb, rfl, hk6, tw6, okw, fun b H7 db g7 tb => ?_⟩
      have hk7 := g7.ok hk6
      have tw7 := tw6.mono (g7.le hk6)
      refine ⟨b, rfl, b, db, rfl, tb, fun H8 s8 => ?_⟩
      refine ⟨_, rfl, _, .ty _, _, _, _, rfl, .ty _, (Tp.bl (K := K) (H := H8) (isWeb db)).ty, (Tp.bl (K := K) (H := H8) (isWeb db)).kBool, _, rfl, iteF ?_⟩
      refine ⟨_, rfl, b, rfl, b, db, rfl, tb.mono (Le.of s8), fun H9 s9 => ⟨rfl, _, rfl, ?_⟩⟩
      rw [decide_eq_true (show V.bl (isWeb db) = V.bl (isWeb db) from rfl)]
      refine iteF ⟨b, rfl, rfl, rfl, b, db, rfl, tb.mono (Le.of (s8.trans s9)), fun H10 s10 => ⟨_, rfl, rfl, _, rfl, ?_⟩⟩
      rw [decide_eq_true (show V.bl (isWeb db) = V.bl (isWeb db) from rfl)]
      refine iteF ⟨⟨_, _, _, _, _, rfl⟩, hk7.same ((s8.trans s9).trans s10), tw7.mono (Le.of ((s8.trans s9).trans s10))⟩
    · rintro σ H6 ⟨⟨n4, n5, n6, n7, n8, rfl⟩, hk6, tw6⟩
      -- other things
      obtain ⟨aw, xw, rfl, hSw, hsw⟩ := tw6.sq
      have lxw : xw.length = wb.length := by rw [hsw.len, List.length_map]
      refine ⟨.ref h, rfl, .ref aw, rfl, aw, _, rfl, .inr hSw, h, _, rfl, hk6, fun o1 H7 d1 g7 t1 => ?_⟩
      have tw7 := tw6.mono (g7.le hk6)
      refine ⟨.ref aw, rfl, aw, _, rfl, .inr ((g7.le hk6).sqT hSw), fun l1 hl1 => ?_⟩
      refine fun dk hdk => ⟨.ref aw, rfl, upd_same, [(Sum.inl 0, .ref aw)], rfl, (by show 1 ≤ 15; decide), ?_⟩
      rw [upd_upd]
      have sA : Same H7 (upd (upd H7 l1 (.lst xw)) dk (.dK (mergeK [] [(Sum.inl 0, .ref aw)]))) := (Same.new hl1).trans (Same.new hdk)
      obtain ⟨y0, hat0, hy0⟩ := pickI (xs := xw) (v := 0) (by decide) (by have := okw.1; omega)
      obtain ⟨dy, hdy, ty⟩ := hsw.get hy0
      refine ⟨.ref aw, rfl, aw, xw, 0, y0, rfl, rfl, (Le.of sA).sqT ((g7.le hk6).sqT hSw), hat0, .ref aw, rfl, szl (by show 1 ≤ 100000; decide), fun tp htp => ⟨szl (by show 5 ≤ 100000; decide), fun ll hll => ?_⟩⟩
      have sB := (Same.new (o := .tup [.ref aw]) htp).trans (Same.new (o := .lst [o1, .ref l1, .ref dk, y0, .ref tp]) hll)
      have sC := sA.trans sB
      have tAll : TpAll K (upd (upd (upd (upd H7 l1 (.lst xw)) dk (.dK (mergeK [] [(Sum.inl 0, .ref aw)]))) tp (.tup [.ref aw])) ll (.lst [o1, .ref l1, .ref dk, y0, .ref tp])) [o1, .ref l1, .ref dk, y0, .ref tp] [d1, .oth "list", .oth "dict", dy, .tup [webD wb]] :=
        .cons (t1.mono (Le.of sC)) (.cons (Tp.mono (Le.of ((Same.new hdk).trans sB)) (.lst upd_same)) (.cons (Tp.mono (Le.of sB) (.dct upd_same)) (.cons (ty.mono ((g7.le hk6).trans (Le.of sC))) (.cons (Tp.mono (Le.new hll) (.tup (SqT.of upd_same) (.cons (tw7.mono (Le.of (sA.trans (Same.new htp)))) .nil))) .nil))))
      have hkB := (g7.ok hk6).same sC
      refine ⟨ll, rfl, ⟨_, SqL.of upd_same⟩, for_list (K := K) (a := ll) (xs := [o1, .ref l1, .ref dk, y0, .ref tp]) (fun j σ H' => (∃ m4 m5 m6 m7 m8, σ = [some (.ref a), some (.ref h), some (.int (0 + i)), some (.ref aw), m4, m5, m6, m7, m8]) ∧ Same (upd (upd (upd (upd H7 l1 (.lst xw)) dk (.dK (mergeK [] [(Sum.inl 0, .ref aw)]))) tp (.tup [.ref aw])) ll (.lst [o1, .ref l1, .ref dk, y0, .ref tp])) H')
        ⟨⟨_, _, _, _, _, rfl⟩, Same.refl _⟩ (fun j σ H' _ p => p.2.seq (SqL.of upd_same)) ?_ ?_⟩
      · rintro j x σ H8 hx ⟨⟨n4, n5, n6, n7, n8, rfl⟩, s8⟩
        obtain ⟨dx, _, tx⟩ := tAll.get hx
        refine ⟨x, rfl, x, dx, rfl, tx.mono (Le.of s8), fun H9 s9 => ?_⟩
        refine ⟨_, rfl, _, .ty _, _, _, _, rfl, .ty _, (Tp.bl (K := K) (H := H9) (isWeb dx)).ty, (Tp.bl (K := K) (H := H9) (isWeb dx)).kBool, _, rfl, iteF ?_⟩
        refine ⟨_, rfl, x, rfl, x, dx, rfl, tx.mono (Le.of (s8.trans s9)), fun H10 s10 => ⟨rfl, _, rfl, ?_⟩⟩
        rw [decide_eq_true (show V.bl (isWeb dx) = V.bl (isWeb dx) from rfl)]
        exact iteF ⟨⟨_, _, _, _, _, rfl⟩, (s8.trans s9).trans s10⟩
      · rintro σ H8 ⟨⟨n4, n5, n6, n7, n8, rfl⟩, s8⟩
        exact ⟨⟨_, _, _, _, _, _, _, rfl⟩, hkB.same s8⟩
  · rintro σ H2 ⟨⟨m2, m3, m4, m5, m6, m7, m8, rfl⟩, hk2⟩
    refine ⟨szl (by show 2 ≤ 100000; decide), fun p1 h1 => ⟨szl (by show 1 ≤ 100000; decide), fun p2 h2 => ⟨szl (by show 1 ≤ 100000; decide), fun p3 h3 => ?_⟩⟩⟩
    refine ⟨.ref p3, _, rfl, tp3 (fun H => .int 1) (fun H => .int 0) h2 h3, fun H3 s3 => ⟨_, true, rfl, rfl, _, rfl, iteF ?_⟩⟩
    have sA := ((Same.new h1).trans ((Same.new h2).trans (Same.new h3))).trans s3
    refine ⟨szl (by show 2 ≤ 100000; decide), fun q1 i1 => ⟨szl (by show 1 ≤ 100000; decide), fun q2 i2 => ⟨szl (by show 1 ≤ 100000; decide), fun q3 i3 => ?_⟩⟩⟩
    refine ⟨.ref q3, _, rfl, tp3 (fun H => .bl true) (fun H => .int 0) i2 i3, fun H4 s4 => ⟨_, false, rfl, rfl, _, rfl, iteF ?_⟩⟩
    have sB := sA.trans (((Same.new i1).trans ((Same.new i2).trans (Same.new i3))).trans s4)
    refine ⟨szl (by show 2 ≤ 100000; decide), fun r1 j1 => ⟨szl (by show 1 ≤ 100000; decide), fun r2 j2 => ⟨szl (by show 1 ≤ 100000; decide), fun r3 j3 => ?_⟩⟩⟩
    refine ⟨.ref r3, _, rfl, tp3 (fun H => .int 1) (fun H => .bl false) j2 j3, fun H5 s5 => ⟨_, false, rfl, rfl, _, rfl, iteF ?_⟩⟩
    have sC := sB.trans (((Same.new j1).trans ((Same.new j2).trans (Same.new j3))).trans s5)
    -- many
    refine ⟨szl (by show 3 ≤ 100000; decide), fun l hl => ⟨.ref h, rfl, h, 3, rfl, (hk2.same sC).same (Same.new hl), by decide, by decide, fun x H6 g6 xa xb => ?_⟩⟩
    have e6 : H6 l = some (.lst [.int 119, .int 120, .int 121]) := g6.fr _ _ ((hk2.same sC).ne_new hl) upd_same
    have pk : ∃ n : Int, atI [V.int 119, .int 120, .int 121] x = some (.int n) ∧ (n = 119 ∨ n = 120 ∨ n = 121) := by
      obtain ⟨z, hz, hm⟩ := pick (xs := [V.int 119, .int 120, .int 121]) xa xb
      simp only [List.mem_cons, List.not_mem_nil, or_false] at hm
      rcases hm with rfl | rfl | rfl
      · exact ⟨119, hz, .inl rfl⟩
      · exact ⟨120, hz, .inr (.inl rfl)⟩
      · exact ⟨121, hz, .inr (.inr rfl)⟩
    obtain ⟨n, hn, hn2⟩ := pk
    refine ⟨l, _, x, .int n, rfl, rfl, SqL.of e6, hn, ?_⟩
    refine ⟨.int n, rfl, n, 1, rfl, rfl, szl (by show 2 ≤ 100000; decide), fun p1 h1 => ⟨szl (by show 1 ≤ 100000; decide), fun p2 h2 => ⟨szl (by show 1 ≤ 100000; decide), fun p3 h3 => ?_⟩⟩⟩
    refine ⟨.int n, rfl, p3, n, _, rfl, rfl, SqT.of upd_same, (by intro z; cases z), by omega, by omega, (by show 1 ≤ 1000; decide), fun p4 h4 => ?_⟩
    have t2 : Tp K (upd (upd (upd H6 p1 (.tup [.int 0, .int (n - 1)])) p2 (.tup [.ref p1])) p3 (.tup [.ref p2])) (.ref p2) (.tup [.tup [.int 0, .int (n - 1)]]) :=
      Tp.mono (Le.new h3) (.tup (SqT.of upd_same) (.cons (Tp.mono (Le.new h2) (.tup (SqT.of upd_same) (.cons (.int _) (.cons (.int _) .nil)))) .nil))
    have t4 := TpAll.mono (Le.new (o := .tup (List.replicate n.toNat [V.ref p2]).flatten) h4) ((TpAll.cons t2 .nil).rep n.toNat)
    refine ⟨.ref p4, _, rfl, .tup (SqT.of upd_same) t4, fun H7 s7 => ?_⟩
    rw [many_web n hn2]
    refine ⟨_, rfl, _, .ty _, _, _, _, rfl, .ty _, (Tp.bl (K := K) (H := H7) (decide (n < 121))).ty, (Tp.bl (K := K) (H := H7) (decide (n < 121))).kBool, _, rfl, iteT ?_⟩
    refine ⟨_, rfl, .int n, rfl, n, 121, rfl, rfl, rfl, ?_⟩
    rw [decide_eq_true (show V.bl (decide (n < 121)) = V.bl (decide (n < 121)) from rfl)]
    exact q _
end
end K01

set_option maxHeartbeats 8000000
namespace K01
open PySem PySem.Spec PyProof.Rows L2 Pd
theorem all_mk {l : PySem.W.OpenLaw} {w : World} {K : PySem.W.Frag} {h : Heap} {mg : Str → Option Value} {fa f0 f1 f2 f3 f4 f5 f6 f7 f8 f9 f10 f11 : Addr} (X : K.In h) (G : h.Ns mainGlobals mg) (hfa : mg "law" = some (.ref fa))
    {od0 an0 : Option Addr} {sl0 : Array (Option Value)} {oc0 kV0 dc0 pm0 cd0 ct0 : Value}
    {T0 : Addr} {oT0 : Obj}
    (a0 : PySem.W.nsIn K mainGlobals "is_integer" = some (some (.ref f0))) (l0 : K.lookup f0 = some ⟨oc0, od0, .func (PySem.W.fnOf "is_integer" "is_integer" (defArgs s_is_integer) (defBody s_is_integer) (defScope s_is_integer) (.ref T0) kV0 dc0 pm0 an0 cd0 ct0), sl0⟩) (c0 : PySem.W.codeIn K cd0 "is_integer" = true) (k0 : PySem.W.keepIn K (.ref f0) = true)
    (t0 : K.lookup T0 = some oT0) (u0 : oT0.data = .seq ([.none, .none] : List Value).toArray 0)
    {od1 an1 : Option Addr} {sl1 : Array (Option Value)} {oc1 kV1 dc1 pm1 cd1 ct1 : Value}
    (a1 : PySem.W.nsIn K mainGlobals "is_node" = some (some (.ref f1))) (l1 : K.lookup f1 = some ⟨oc1, od1, .func (PySem.W.fnOf "is_node" "is_node" (defArgs s_is_node) (defBody s_is_node) (defScope s_is_node) .none kV1 dc1 pm1 an1 cd1 ct1), sl1⟩) (c1 : PySem.W.codeIn K cd1 "is_node" = true) (k1 : PySem.W.keepIn K (.ref f1) = true)
    {od2 an2 : Option Addr} {sl2 : Array (Option Value)} {oc2 kV2 dc2 pm2 cd2 ct2 : Value}
    (a2 : PySem.W.nsIn K mainGlobals "is_web" = some (some (.ref f2))) (l2 : K.lookup f2 = some ⟨oc2, od2, .func (PySem.W.fnOf "is_web" "is_web" (defArgs s_is_web) (defBody s_is_web) (defScope s_is_web) .none kV2 dc2 pm2 an2 cd2 ct2), sl2⟩) (c2 : PySem.W.codeIn K cd2 "is_web" = true) (k2 : PySem.W.keepIn K (.ref f2) = true)
    {od3 an3 : Option Addr} {sl3 : Array (Option Value)} {oc3 kV3 dc3 pm3 cd3 ct3 : Value}
    (a3 : PySem.W.nsIn K mainGlobals "_law_hand" = some (some (.ref f3))) (l3 : K.lookup f3 = some ⟨oc3, od3, .func (PySem.W.fnOf "_law_hand" "_law_hand" (defArgs s__law_hand) (defBody s__law_hand) (defScope s__law_hand) .none kV3 dc3 pm3 an3 cd3 ct3), sl3⟩) (c3 : PySem.W.codeIn K cd3 "_law_hand" = true) (k3 : PySem.W.keepIn K (.ref f3) = true)
    {od4 an4 : Option Addr} {sl4 : Array (Option Value)} {oc4 kV4 dc4 pm4 cd4 ct4 : Value}
    (a4 : PySem.W.nsIn K mainGlobals "_law_draw" = some (some (.ref f4))) (l4 : K.lookup f4 = some ⟨oc4, od4, .func (PySem.W.fnOf "_law_draw" "_law_draw" (defArgs s__law_draw) (defBody s__law_draw) (defScope s__law_draw) .none kV4 dc4 pm4 an4 cd4 ct4), sl4⟩) (c4 : PySem.W.codeIn K cd4 "_law_draw" = true) (k4 : PySem.W.keepIn K (.ref f4) = true)
    {od5 an5 : Option Addr} {sl5 : Array (Option Value)} {oc5 kV5 dc5 pm5 cd5 ct5 : Value}
    (a5 : PySem.W.nsIn K mainGlobals "_law_web" = some (some (.ref f5))) (l5 : K.lookup f5 = some ⟨oc5, od5, .func (PySem.W.fnOf "_law_web" "_law_web" (defArgs s__law_web) (defBody s__law_web) (defScope s__law_web) .none kV5 dc5 pm5 an5 cd5 ct5), sl5⟩) (c5 : PySem.W.codeIn K cd5 "_law_web" = true) (k5 : PySem.W.keepIn K (.ref f5) = true)
    {od6 an6 : Option Addr} {sl6 : Array (Option Value)} {oc6 kV6 dc6 pm6 cd6 ct6 : Value}
    (a6 : PySem.W.nsIn K mainGlobals "_law_is_number" = some (some (.ref f6))) (l6 : K.lookup f6 = some ⟨oc6, od6, .func (PySem.W.fnOf "_law_is_number" "_law_is_number" (defArgs s__law_is_number) (defBody s__law_is_number) (defScope s__law_is_number) .none kV6 dc6 pm6 an6 cd6 ct6), sl6⟩) (c6 : PySem.W.codeIn K cd6 "_law_is_number" = true) (k6 : PySem.W.keepIn K (.ref f6) = true)
    {od7 an7 : Option Addr} {sl7 : Array (Option Value)} {oc7 kV7 dc7 pm7 cd7 ct7 : Value}
    (a7 : PySem.W.nsIn K mainGlobals "_law_is_web" = some (some (.ref f7))) (l7 : K.lookup f7 = some ⟨oc7, od7, .func (PySem.W.fnOf "_law_is_web" "_law_is_web" (defArgs s__law_is_web) (defBody s__law_is_web) (defScope s__law_is_web) .none kV7 dc7 pm7 an7 cd7 ct7), sl7⟩) (c7 : PySem.W.codeIn K cd7 "_law_is_web" = true) (k7 : PySem.W.keepIn K (.ref f7) = true)
    {od8 an8 : Option Addr} {sl8 : Array (Option Value)} {oc8 kV8 dc8 pm8 cd8 ct8 : Value}
    (a8 : PySem.W.nsIn K mainGlobals "_law_odd" = some (some (.ref f8))) (l8 : K.lookup f8 = some ⟨oc8, od8, .func (PySem.W.fnOf "_law_odd" "_law_odd" (defArgs s__law_odd) (defBody s__law_odd) (defScope s__law_odd) .none kV8 dc8 pm8 an8 cd8 ct8), sl8⟩) (c8 : PySem.W.codeIn K cd8 "_law_odd" = true) (k8 : PySem.W.keepIn K (.ref f8) = true)
    {od9 an9 : Option Addr} {sl9 : Array (Option Value)} {oc9 kV9 dc9 pm9 cd9 ct9 : Value}
    (a9 : PySem.W.nsIn K mainGlobals "_law_put" = some (some (.ref f9))) (l9 : K.lookup f9 = some ⟨oc9, od9, .func (PySem.W.fnOf "_law_put" "_law_put" (defArgs s__law_put) (defBody s__law_put) (defScope s__law_put) .none kV9 dc9 pm9 an9 cd9 ct9), sl9⟩) (c9 : PySem.W.codeIn K cd9 "_law_put" = true) (k9 : PySem.W.keepIn K (.ref f9) = true)
    {od10 an10 : Option Addr} {sl10 : Array (Option Value)} {oc10 kV10 dc10 pm10 cd10 ct10 : Value}
    (a10 : PySem.W.nsIn K mainGlobals "_law_bent" = some (some (.ref f10))) (l10 : K.lookup f10 = some ⟨oc10, od10, .func (PySem.W.fnOf "_law_bent" "_law_bent" (defArgs s__law_bent) (defBody s__law_bent) (defScope s__law_bent) .none kV10 dc10 pm10 an10 cd10 ct10), sl10⟩) (c10 : PySem.W.codeIn K cd10 "_law_bent" = true) (k10 : PySem.W.keepIn K (.ref f10) = true)
    {od11 an11 : Option Addr} {sl11 : Array (Option Value)} {oc11 kV11 dc11 pm11 cd11 ct11 : Value}
    (a11 : PySem.W.nsIn K mainGlobals "law" = some (some (.ref f11))) (l11 : K.lookup f11 = some ⟨oc11, od11, .func (PySem.W.fnOf "law" "law" (defArgs s_law) (defBody s_law) (defScope s_law) .none kV11 dc11 pm11 an11 cd11 ct11), sl11⟩) (c11 : PySem.W.codeIn K cd11 "law" = true) (k11 : PySem.W.keepIn K (.ref f11) = true)
    (z0 : PySem.W.nsIn K mainGlobals "len" = some none)
    (z1 : PySem.W.nsIn K mainGlobals "range" = some none)
    (z2 : PySem.W.nsIn K mainGlobals "isinstance" = some none)
    (z3 : PySem.W.nsIn K mainGlobals "int" = some none)
    (z4 : PySem.W.nsIn K mainGlobals "bool" = some none)
    (z5 : PySem.W.nsIn K mainGlobals "tuple" = some none)
    (z6 : PySem.W.nsIn K mainGlobals "list" = some none)
    (z7 : PySem.W.nsIn K mainGlobals "abs" = some none)
    (z8 : PySem.W.nsIn K mainGlobals "all" = some none)
    (z9 : PySem.W.nsIn K mainGlobals "max" = some none)
    (z10 : PySem.W.nsIn K mainGlobals "min" = some none)
    {tk0 : Tok} (con0 : PySem.W.nsIn K mainGlobals "MOST_NODES" = some (some (.int 120 tk0)))
    {tk1 : Tok} (con1 : PySem.W.nsIn K mainGlobals "MOST_MOVES" = some (some (.int 12 tk1)))
    {tk2 : Tok} (con2 : PySem.W.nsIn K mainGlobals "MOST_WEIGHT" = some (some (.int 1000000 tk2)))
    : ∃ fd : FuncData, (∀ (s : Shared) (v : Value), BindsTo s fd ⟨[v], []⟩ [("_law_script", v)]) ∧ ∀ base : Heap, K.In base → base.Ns mainGlobals mg → FnOk l.prog w K mg base CX0 5 fa fd ["_law_script"] (spLaw K) := by
  have e := hfa.symm.trans (PySem.W.mg_of X G a11)
  cases e
  have T : Txt mg := { m_len := PySem.W.mg_none_of X G z0, m_range := PySem.W.mg_none_of X G z1, m_isinstance := PySem.W.mg_none_of X G z2, m_int := PySem.W.mg_none_of X G z3, m_bool := PySem.W.mg_none_of X G z4, m_tuple := PySem.W.mg_none_of X G z5, m_list := PySem.W.mg_none_of X G z6, m_abs := PySem.W.mg_none_of X G z7, m_all := PySem.W.mg_none_of X G z8, m_max := PySem.W.mg_none_of X G z9, m_min := PySem.W.mg_none_of X G z10, g_MOST_NODES := ⟨_, PySem.W.mg_of X G con0, _, rfl⟩, g_MOST_MOVES := ⟨_, PySem.W.mg_of X G con1, _, rfl⟩, g_MOST_WEIGHT := ⟨_, PySem.W.mg_of X G con2, _, rfl⟩ }
  have F0 : FunD K "is_integer" "is_integer" (defArgs s_is_integer) (defBody s_is_integer) (defScope s_is_integer) [.non, .non] [] f0 (PySem.W.fnOf "is_integer" "is_integer" (defArgs s_is_integer) (defBody s_is_integer) (defScope s_is_integer) (.ref T0) kV0 dc0 pm0 an0 cd0 ct0) := ⟨⟨_, _, _, _, _, _, _, _, _, _, rfl, l0, c0, .inr ⟨(by intro z; cases z), T0, _, [.none, .none], 0, rfl, t0, u0, .cons rfl (.cons rfl (.nil))⟩, .inl rfl⟩, k0⟩
  have b0 : Binds K (PySem.W.fnOf "is_integer" "is_integer" (defArgs s_is_integer) (defBody s_is_integer) (defScope s_is_integer) (.ref T0) kV0 dc0 pm0 an0 cd0 ct0) ["thing", "low", "high"] [] := by
    obtain ⟨ds, hd, hb⟩ := F0.binds1 (ps := ["thing", "low", "high"]) 3 2 (by intro z; cases z) rfl (fun T kV doc pm an cdv ct us its hu hi => match us, its, hu, hi with | [_, _, _], [_, _], _, _ => ⟨_, rfl, rfl⟩)
    cases hd
    exact hb
  have F1 := fun_mk (st := s_is_node) l1 c1 k1
  have b1 := F1.binds (ps := ["thing", "many"]) fun _ _ _ _ _ _ us hl => match us, hl with | [_, _], _ => rfl
  have F2 := fun_mk (st := s_is_web) l2 c2 k2
  have b2 := F2.binds (ps := ["thing"]) fun _ _ _ _ _ _ us hl => match us, hl with | [_], _ => rfl
  have F3 := fun_mk (st := s__law_hand) l3 c3 k3
  have b3 := F3.binds (ps := ["_law_script"]) fun _ _ _ _ _ _ us hl => match us, hl with | [_], _ => rfl
  have F4 := fun_mk (st := s__law_draw) l4 c4 k4
  have b4 := F4.binds (ps := ["_law_hand_here", "_law_size"]) fun _ _ _ _ _ _ us hl => match us, hl with | [_, _], _ => rfl
  have F5 := fun_mk (st := s__law_web) l5 c5 k5
  have b5 := F5.binds (ps := ["_law_hand_here", "_law_most"]) fun _ _ _ _ _ _ us hl => match us, hl with | [_, _], _ => rfl
  have F6 := fun_mk (st := s__law_is_number) l6 c6 k6
  have b6 := F6.binds (ps := ["_law_item", "_law_low", "_law_high"]) fun _ _ _ _ _ _ us hl => match us, hl with | [_, _, _], _ => rfl
  have F7 := fun_mk (st := s__law_is_web) l7 c7 k7
  have b7 := F7.binds (ps := ["_law_item"]) fun _ _ _ _ _ _ us hl => match us, hl with | [_], _ => rfl
  have F8 := fun_mk (st := s__law_odd) l8 c8 k8
  have b8 := F8.binds (ps := ["_law_hand_here", "_law_many"]) fun _ _ _ _ _ _ us hl => match us, hl with | [_, _], _ => rfl
  have F9 := fun_mk (st := s__law_put) l9 c9 k9
  have b9 := F9.binds (ps := ["_law_hand_here", "_law_row", "_law_more"]) fun _ _ _ _ _ _ us hl => match us, hl with | [_, _, _], _ => rfl
  have F10 := fun_mk (st := s__law_bent) l10 c10 k10
  have b10 := F10.binds (ps := ["_law_hand_here", "_law_web_here"]) fun _ _ _ _ _ _ us hl => match us, hl with | [_, _], _ => rfl
  have F11 := fun_mk (st := s_law) l11 c11 k11
  have b11 := F11.binds (ps := ["_law_script"]) fun _ _ _ _ _ _ us hl => match us, hl with | [_], _ => rfl
  refine ⟨PySem.W.fnOf "law" "law" (defArgs s_law) (defBody s_law) (defScope s_law) .none kV11 dc11 pm11 an11 cd11 ct11, fun s v => .of_eq rfl, fun base _ _ => ?_⟩
  have q4 : mg "_law_draw" = some (.ref f4) := PySem.W.mg_of X G a4
  have c0 : Fn l.prog w K mg base 0 "_law_draw" (spDraw 0) := ⟨_, _, _, ok_draw0, q4, k4, b4⟩
  have c1 : Fn l.prog w K mg base 1 "_law_draw" (spDraw 1000000) := ⟨_, _, _, ok_drawS (by decide) (fun n h1 h2 => absurd h1 (by omega)) F4 T c0, q4, k4, b4⟩
  have c2 : Fn l.prog w K mg base 2 "_law_draw" (spDraw 1000000000) := ⟨_, _, _, ok_drawS (by decide) (fun n h1 h2 => by omega) F4 T c1, q4, k4, b4⟩
  have ci : Fn l.prog w K mg base 1 "is_integer" (spIsInteger K) := ⟨_, _, _, ok_is_integer F0 T, PySem.W.mg_of X G a0, k0, b0⟩
  have cn : Fn l.prog w K mg base 2 "is_node" (spIsNode K) := ⟨_, _, _, ok_is_node F1 T ci, PySem.W.mg_of X G a1, k1, b1⟩
  have okw := ok_is_web (P := l.prog) (w := w) (base := base) F2 T cn
  have cw : Fn l.prog w K mg base 3 "is_web" (spIsWeb K) := ⟨_, _, _, okw, PySem.W.mg_of X G a2, k2, b2⟩
  have ck : FnK l.prog w K mg base 3 "is_web" ["thing"] (fun vs zs => vs ++ zs) (spIsWeb K) := ⟨_, _, _, fun us ws => us ++ ws, okw, PySem.W.mg_of X G a2, k2, ⟨fun s us ws _ hu hw => match us, ws, hu, hw with | [], [_], _, _ => .of_eq rfl, fun r1 r2 => r1.append r2⟩⟩
  have cu : Fn l.prog w K mg base 1 "_law_is_number" (spIsInteger K) := ⟨_, _, _, ok_number F6 T, PySem.W.mg_of X G a6, k6, b6⟩
  have cj : Fn l.prog w K mg base 2 "_law_is_web" (spIsWeb K) := ⟨_, _, _, ok_law_is_web F7 T cu, PySem.W.mg_of X G a7, k7, b7⟩
  have ch : Fn l.prog w K mg base 1 "_law_hand" (spHand K) := ⟨_, _, _, ok_hand F3 T, PySem.W.mg_of X G a3, k3, b3⟩
  have cv : Fn l.prog w K mg base 3 "_law_web" (spWeb K) := ⟨_, _, _, ok_web F5 T c2, PySem.W.mg_of X G a5, k5, b5⟩
  have co : Fn l.prog w K mg base 3 "_law_odd" (spOdd K) := ⟨_, _, _, ok_odd F8 T c2, PySem.W.mg_of X G a8, k8, b8⟩
  have cp : Fn l.prog w K mg base 3 "_law_put" (spPut K) := ⟨_, _, _, ok_put F9 T c2, PySem.W.mg_of X G a9, k9, b9⟩
  have c2' : Fn l.prog w K mg base 3 "_law_draw" (spDraw 1000000000) := ⟨_, _, _, (ok_drawS (by decide) (fun n h1 h2 => by omega) F4 T c1 : FnOk l.prog w K mg base CX0 2 _ _ _ (spDraw 1000000000)).mono (by decide), q4, k4, b4⟩
  have cb : Fn l.prog w K mg base 4 "_law_bent" (spBent K) := ⟨_, _, _, ok_bent F10 T c2' co cp, PySem.W.mg_of X G a10, k10, b10⟩
  exact ok_law F11 T c2 co cb ch cv cw cj ck
end K01
open PySem PySem.W PyProof.Rows
set_option maxHeartbeats 0 in
theorem PySem.Challenge.cw_parlourday_k01_what_is_a_web_holds : PySem.Challenge.rw_parlourday_k01_what_is_a_web.Holds := by
  w_on; o_law; k_head; (case hw => w_witness2)
  k_fill
  refine L2.walk_of (l := PySem.Challenge.rw_parlourday_k01_what_is_a_web) (n := 63) (k := 5) (x := "_law_script") (CX := fun _ => L2.CX0) (sp := fun w => K01.spLaw _) rfl (by decide) rfl ⟨rfl, by decide, by decide⟩ (fun w h Y => PySem.W.kIn_of Y) ?F (fun _ _ a ns hl _ hS => ⟨a, ns, rfl, hS, hl, fun _ => rfl⟩) (fun _ _ _ _ _ h => h)
  case F =>
    intro w mg fa h KX G hmg
    refine' K01.all_mk KX G hmg ?a0 ?l0 ?c0 ?k0 ?t0 ?u0 ?a1 ?l1 ?c1 ?k1 ?a2 ?l2 ?c2 ?k2 ?a3 ?l3 ?c3 ?k3 ?a4 ?l4 ?c4 ?k4 ?a5 ?l5 ?c5 ?k5 ?a6 ?l6 ?c6 ?k6 ?a7 ?l7 ?c7 ?k7 ?a8 ?l8 ?c8 ?k8 ?a9 ?l9 ?c9 ?k9 ?a10 ?l10 ?c10 ?k10 ?a11 ?l11 ?c11 ?k11 ?z0 ?z1 ?z2 ?z3 ?z4 ?z5 ?z6 ?z7 ?z8 ?z9 ?z10 ?con0 ?con1 ?con2
    (case a0 => first | k_is | rfl)
    (case l0 => first | k_is | rfl)
    (case c0 => first | k_is | rfl)
    (case k0 => first | k_is | rfl)
    (case t0 => first | k_is | rfl)
    (case u0 => first | k_is | rfl)
    (case a1 => first | k_is | rfl)
    (case l1 => first | k_is | rfl)
    (case c1 => first | k_is | rfl)
    (case k1 => first | k_is | rfl)
    (case a2 => first | k_is | rfl)
    (case l2 => first | k_is | rfl)
    (case c2 => first | k_is | rfl)
    (case k2 => first | k_is | rfl)
    (case a3 => first | k_is | rfl)
    (case l3 => first | k_is | rfl)
    (case c3 => first | k_is | rfl)
    (case k3 => first | k_is | rfl)
    (case a4 => first | k_is | rfl)
    (case l4 => first | k_is | rfl)
    (case c4 => first | k_is | rfl)
    (case k4 => first | k_is | rfl)
    (case a5 => first | k_is | rfl)
    (case l5 => first | k_is | rfl)
    (case c5 => first | k_is | rfl)
    (case k5 => first | k_is | rfl)
    (case a6 => first | k_is | rfl)
    (case l6 => first | k_is | rfl)
    (case c6 => first | k_is | rfl)
    (case k6 => first | k_is | rfl)
    (case a7 => first | k_is | rfl)
    (case l7 => first | k_is | rfl)
    (case c7 => first | k_is | rfl)
    (case k7 => first | k_is | rfl)
    (case a8 => first | k_is | rfl)
    (case l8 => first | k_is | rfl)
    (case c8 => first | k_is | rfl)
    (case k8 => first | k_is | rfl)
    (case a9 => first | k_is | rfl)
    (case l9 => first | k_is | rfl)
    (case c9 => first | k_is | rfl)
    (case k9 => first | k_is | rfl)
    (case a10 => first | k_is | rfl)
    (case l10 => first | k_is | rfl)
    (case c10 => first | k_is | rfl)
    (case k10 => first | k_is | rfl)
    (case a11 => first | k_is | rfl)
    (case l11 => first | k_is | rfl)
    (case c11 => first | k_is | rfl)
    (case k11 => first | k_is | rfl)
    (case z0 => first | k_is | rfl)
    (case z1 => first | k_is | rfl)
    (case z2 => first | k_is | rfl)
    (case z3 => first | k_is | rfl)
    (case z4 => first | k_is | rfl)
    (case z5 => first | k_is | rfl)
    (case z6 => first | k_is | rfl)
    (case z7 => first | k_is | rfl)
    (case z8 => first | k_is | rfl)
    (case z9 => first | k_is | rfl)
    (case z10 => first | k_is | rfl)
    (case con0 => first | k_is | rfl)
    (case con1 => first | k_is | rfl)
    (case con2 => first | k_is | rfl)
