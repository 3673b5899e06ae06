import PyProof.Rows.All
import Wide.All
import OpenK.AllK
import Wide.FinOn
import PyProof.EqAt
import PyProof.EqKinds
import PyProof.TupleCall
import HandS.ForMost
import HandS.Defaults
import HandS.IsInst
import HandS.TupAny
import HandS.TupMul
import HandS.Style
import HandS.Evl
import HandS.More
import HandS.SortInts
import HandS.ForExc
import HandS.ExcSuper
import HandS.CallSlots
import KE.KExcSuper
import HandS.ExcIs
import KE.KExcIs
import PyProof.ReprLen
import HandS.Conv
import PySem.Challenge.RW_parlourday_k02_walks_and_where_they_lead
set_option Elab.async false
set_option linter.all false
set_option maxRecDepth 100000
set_option maxHeartbeats 4000000
/-! Words of our own over the hand layer: a def by its name, data of tuples, the hand that draws. -/
namespace Pd
open PySem PySem.Spec PyProof.Rows L2

/-! ### a def under its name -/
structure Fn (P : Program) (w : World) (K : PySem.W.Frag) (mg : Str → Option Value) (base : Heap) (k : Nat) (x : Str) (sp : Sp) : Prop where
  ex : ∃ (f : Addr) (fd : FuncData) (ps : List Str), FnOk P w K mg base CX0 k f fd ps sp ∧ mg x = some (.ref f) ∧ PySem.W.keepIn K (.ref f) = true ∧ Binds K fd ps []
structure FnK (P : Program) (w : World) (K : PySem.W.Frag) (mg : Str → Option Value) (base : Heap) (k : Nat) (x : Str) (ks : List Str) (gV : List V → List V → List V) (sp : Sp) : Prop where
  ex : ∃ (f : Addr) (fd : FuncData) (ps : List Str) (g : List Value → List Value → List Value), FnOk P w K mg base CX0 k f fd ps sp ∧ mg x = some (.ref f) ∧ PySem.W.keepIn K (.ref f) = true ∧ KBn K fd ps 0 ks g gV
section
variable {X : Cx} {k j : Nat} {x : Str} {sp : Sp} {p pos : Pos} {e : Expr} {es : List Expr} {t tk : TA} {kws : List Keyword} {ks : List Str} {gV : List V → List V → List V}
theorem pe_f (c : Fn X.prog X.w X.K X.mg X.base k x sp) (hr : Room j X.A) (hk : k ≤ j) (hg : Gl X x) (ha : PA X (e :: es) t)
    (hdb : (x == ("__debug__" : Str)) = false := by decide) (he : starEach (e :: es) X.env = (false, eval e X.env) :: starEach es X.env := by rfl) (hpl : (backTo pos (starEach es X.env)).any (·.1) = false := by rfl) :
    PE X (.Call (.Name x p) (e :: es) [] pos) (tCall sp [] E0 t) := by
  obtain ⟨f, fd, ps, F, hm, kp, b⟩ := c.ex
  exact pe_call F (hr.mono hk) hg hm kp b .nil pass0 ha hdb he hpl
/-- f(k = v, ..) -/
theorem pe_fk (c : FnK X.prog X.w X.K X.mg X.base k x ks gV sp) (hr : Room j X.A) (hk : k ≤ j) (hg : Gl X x) (hkw : PK X kws tk)
    (hall : (backToKw pos (keywordEach kws X.env)).all (·.1.isSome) = true := by rfl) (hks : (backToKw pos (keywordEach kws X.env)).filterMap (·.1) = ks := by rfl) (hdb : (x == ("__debug__" : Str)) = false := by decide)
    (hpl : ((backTo pos (starEach [] X.env)).any (·.1) || (backToKw pos (keywordEach kws X.env)).any (·.1.isNone)) = false := by rfl) :
    PE X (.Call (.Name x p) [] kws pos) (tCallN 0 ks.length sp gV E0 tNil tk) := by
  obtain ⟨f, fd, ps, g, F, hm, kp, b⟩ := c.ex
  refine ⟨fun pins s σ H Q I h => ?_⟩
  refine wpAny_Call_Name_kw (ld_glob I hg hm ?_ hdb)
  refine PySem.W.callWith_KW0 (h₀ := X.base) I.ok.mod.kin kp hall ?_ hpl
  refine thn (hkw.run pos pins s σ H _ I h) fun ws s2 ⟨zs, H2, I2, rz, l1, l2, q2⟩ => ⟨I2.kIn, ?_⟩
  rw [hks]
  exact run_fnN (us := []) (vs := []) F (hr.mono hk) b pass0 I2 .nil rz rfl l2 q2
/-- a constant of the module, a built-in class -/
theorem pe_gl {v : V} (hg : Gl X x) (h : ∃ u, X.mg x = some u ∧ RelV v u) (hd : (x == ("__debug__" : Str)) = false := by decide) : PE X (.Name x pos) (tC v) := by
  obtain ⟨u, h1, h2⟩ := h
  exact pe_glob hg h1 h2 hd
theorem pe_ty {n : String} (hg : Gl X x) (hm : X.mg x = none) (hv : bootBuiltins x = some (.type n)) (hn : x ≠ "__name__" := by decide) (hd : (x == ("__debug__" : Str)) = false := by decide) : PE X (.Name x pos) (tC (.ty n)) :=
  pe_bltn hg hm hv rfl hn hd
end

/-- a comprehension without a test -/
theorem yes_rd {σ : L2.St} {H : Hp} {A B : Hp → Prop} (h : A H) : tYes σ H fun b H3 => if b = true then A H3 else B H3 := by
  show if true = true then A H else B H
  rw [if_pos rfl]
  exact h
/-! ### rules with the written part named (within a comprehension) -/
section
variable {X : Cx} {K : PySem.W.Frag}
theorem lenK (hK : X.K = K := by rfl) : CallR X (.builtin "len") (fun xs H Q => ∃ p ys, xs = [.ref p] ∧ (SqL K H p ys ∨ SqT K H p ys) ∧ Q (.int ys.length) H) := by
  subst hK; exact call_len_seq
theorem isiK (hK : X.K = K := by rfl) : CallR X (.builtin "isinstance") (rIsi K) := by
  subst hK; exact call_isi
theorem ixTK (hK : X.K = K := by rfl) : IxR X (rIxT K) := by
  subst hK; exact ix_tup
theorem ixLK (hK : X.K = K := by rfl) : IxR X (rIxL K) := by
  subst hK; exact ix_list
theorem catK (hK : X.K = K := by rfl) : OpR X (binaryOp .Add) (rCatA K) := by
  subst hK; exact op_catA
theorem slTK (hK : X.K = K := by rfl) : SlR X (rSlA K) := by
  subst hK; exact sl_tupA
theorem slLK (hK : X.K = K := by rfl) : SlR X (rSlL K) := by
  subst hK; exact sl_list
end

/-! ### t[::-1], a tuple -/
section
variable {X : Cx} {prog : Program} {w : World} {A : Around} {E : Value → Shared → Prop} {s : Shared}
theorem rev_adjust (n : Nat) : Builtin.Slice.sliceAdjust none none (-1) (n : Int) = ((n : Int) - 1, -1) := by
  unfold Builtin.Slice.sliceAdjust
  simp
theorem rev_places (n : Nat) : Builtin.Slice.slicePlaces ((n : Int) - 1) (-1) (-1) = n := by
  unfold Builtin.Slice.slicePlaces
  have h1 : ¬ ((-1 : Int) > 0) := by decide
  simp only [h1, if_false]
  split
  · rw [show (- -1 : Int) = 1 by decide, Int.ediv_one]; omega
  · omega
theorem rev_applied {sl : Addr} {vl vu vs : Value} {n : Nat} {Q : Int × Int × Nat → Shared → Prop} (hs : s.heap.IsSliceOf sl vl vu vs) (pl : IsPart vl none) (pu : IsPart vu none) (ps : IsPart vs (some (-1)))
    (h : Q ((n : Int) - 1, -1, n) s) : wpAny (model prog w) A (Builtin.Slice.sliceApplied (.ref sl) (pure (n : Int))) Q E s := by
  obtain ⟨os, e1, e2, e3⟩ := id hs
  unfold Builtin.Slice.sliceApplied Builtin.Slice.sliceFields
  have go : wpAny (model prog w) A (Builtin.Slice.slicePartIndex vs) (fun o s' => o = some (-1) ∧ s' = s) E s := HT.slicePart_ ps ⟨rfl, rfl⟩
  refine wpAny_bind (wpAny_bind (wpAny_field e1 e3 (x := vl) rfl (wpAny_bind (wpAny_field e1 e3 (x := vu) rfl (wpAny_bind (wpAny_field e1 e3 (x := vs) rfl (wpAny_pure ?_)))))))
  refine wpAny_bind (thn go fun o s' ho => ?_)
  obtain ⟨rfl, rfl⟩ := ho
  show wpAny _ _ (if ((-1 : Int) == 0) = true then _ else _) _ _ _
  rw [if_neg (by decide)]
  refine wpAny_bind (HT.slicePart_ pl (wpAny_bind (HT.slicePart_ pu (wpAny_bind (wpAny_pure ?_)))))
  show wpAny _ _ (match Builtin.Slice.sliceAdjust none none (-1) (n : Int) with | (lo, hi) => pure (lo, (-1 : Int), Builtin.Slice.slicePlaces lo hi (-1))) _ _ _
  rw [rev_adjust n]
  show wpAny _ _ (pure ((n : Int) - 1, (-1 : Int), Builtin.Slice.slicePlaces ((n : Int) - 1) (-1) (-1))) _ _ _
  rw [rev_places]
  exact wpAny_pure h
theorem rev_pick (xs : Array Value) : ((List.range xs.size).filterMap fun (m : Nat) => xs[(((xs.size : Int) - 1) + (m : Int) * (-1)).toNat]?).toArray = xs.toList.reverse.toArray := by
  have e : ((List.range xs.size).filterMap fun (m : Nat) => xs[(((xs.size : Int) - 1) + (m : Int) * (-1)).toNat]?) = ((List.range xs.size).map fun k => xs.size - 1 - k).filterMap (xs[·]?) := by
    rw [List.filterMap_map]
    congr 1
    funext m
    show xs[(((xs.size : Int) - 1) + (m : Int) * (-1)).toNat]? = xs[xs.size - 1 - m]?
    have : (((xs.size : Int) - 1) + (m : Int) * (-1)).toNat = xs.size - 1 - m := by omega
    rw [this]
  rw [e, PySem.W.krv_range, List.filterMap_reverse, PySem.W.krv_all]
theorem getItem_rev {t sl : Addr} {items : Array Value} {vl vu vs : Value} {Q : Value → Shared → Prop} (ht : IsTup s.heap t items) (hs : s.heap.IsSliceOf sl vl vu vs) (pl : IsPart vl none) (pu : IsPart vu none) (ps : IsPart vs (some (-1)))
    (h : Q (.ref s.heap.objs.size) { s with heap := s.heap.push { cls := .type "tuple", data := .seq items.toList.reverse.toArray } }) (hz : items.size ≤ sizeLine) :
    wpAny (model prog w) A (getItem (.ref t) (.ref sl)) Q E s := by
  have hok : sizeOk (.seq items.toList.reverse.toArray) := by
    show items.toList.reverse.toArray.size ≤ sizeLine
    rw [List.size_toArray, List.length_reverse, Array.length_toList]
    exact hz
  obtain ⟨os, hos, hcs, hds⟩ := id hs
  have hT : s.TypeIs (.ref sl) "slice" := ⟨os, hos, hcs⟩
  unfold getItem
  try with_reducible refine wpAny_holding ?_
  first | refine wpAny_bind (wpAny_pure ?_) | skip
  refine wpAny_bind (wpAny_sequenceKey ht.typeIs (by decide) ?_)
  refine wpAny_bind (wpAny_callSpecial?_slot (name := Str.ofString "__getitem__") ht.typeIs PyProof.Rows.slot_tuple_getitem
    (wpAny_call_entry PyProof.Rows.slot_tuple_getitem ht.typeIs entry_tuple_getitem ?_ (args_tuple_getitem _ _)))
  show wpAny _ _ (Builtin.Tuple.tupleItemsOf (.ref t) >>= _) _ _ _
  refine wpAny_bind (tupleItemsOf_ ht (wpAny_bind (wpAny_typeOf hT ?_)))
  rw [if_pos (by decide)]
  refine wpAny_bind (rev_applied hs pl pu ps ?_)
  have hno : ¬ ((((items.size : Int) - 1) == 0 && (-1 : Int) == 1 && items.size == items.size) = true) := by simp
  show wpAny _ _ (if ((((items.size : Int) - 1) == 0 && (-1 : Int) == 1 && items.size == items.size) = true) then _ else _) _ _ _
  rw [if_neg hno, rev_pick]
  first
    | exact wpAny_bind (m := Builtin.Tuple.tupleExact _) (wpAny_newObj_type (wpAny_pure ⟨_, rfl, wpAny_pure h⟩) hok)
    | exact wpAny_bind (m := Builtin.Tuple.tupleExact _) (wpAny_newObj_type (wpAny_bind (wpAny_pure (wpAny_pure ⟨_, rfl, wpAny_pure h⟩))) hok)
    | exact wpAny_bind (wpAny_bind (m := Builtin.Tuple.tupleExact _) (wpAny_newObj_type (wpAny_pure (wpAny_pure ⟨_, rfl, wpAny_pure h⟩)) hok))
    | exact wpAny_bind (wpAny_bind (m := Builtin.Tuple.tupleExact _) (wpAny_newObj_type (wpAny_pure ⟨_, rfl, wpAny_pure h⟩) hok))
def tRevT (K : PySem.W.Frag) (te : TE) : TE := fun σ H Q => te σ H fun x H1 => ∃ a xs, x = .ref a ∧ SqT K H1 a xs ∧ ∀ p, H1 p = none → Q (.ref p) (upd H1 p (.tup xs.reverse))
theorem pe_revT {e : Expr} {te : TE} {k : Nat} {p1 p2 p3 pos : Pos} (he : PE X e te) : PE X (.Subscript e (.Slice none none (some (.UnaryOp .USub (.Constant (.int 1) k p1) p2)) p3) pos) (tRevT X.K te) := by
  refine ⟨fun pins s σ H Q I h => ?_⟩
  refine Subscript_ (thn (he.run pins s σ H _ I h) fun v s1 ⟨x, H1, I1, r1, q1⟩ => ?_)
  obtain ⟨a, xs, ex, hx, q⟩ := q1
  subst ex
  cases r1
  have hst : PO X (some (.UnaryOp .USub (.Constant (.int 1) k p1) p2)) (tPart (tUn (rU fun i => .int (-i)) (tC (.int 1)))) := po_some (pe_un un_neg pe_int)
  refine wpAny_Slice (thn (po_none.run pins s1 σ H1 (fun o H2 => o = none ∧ H2 = H1) I1 ⟨rfl, rfl⟩) fun vl s2 ⟨l, H2, I2, pl, el, e2⟩ => ?_)
  subst el e2
  refine thn (po_none.run pins s2 σ H2 (fun o H3 => o = none ∧ H3 = H2) I2 ⟨rfl, rfl⟩) fun vu s3 ⟨u, H3, I3, pu, eu, e3⟩ => ?_
  subst eu e3
  refine thn (hst.run pins s3 σ H3 (fun o H4 => o = some (-1) ∧ H4 = H3) I3 ⟨1, rfl, -1, rfl, rfl, rfl⟩) fun vs s4 ⟨o, H4, I4, ps, eo, e4⟩ => ?_
  subst eo e4
  have I5 : Inv X pins σ H4 { s4 with heap := s4.heap.push { cls := .type "slice", data := .fields #[vl, vu, vs] } } := I4.kept (t' := s4.toks) fun b ob q => Heap.get?_push_of_some _ q
  obtain ⟨its, r, ht, hz⟩ := I5.tuple hx
  have hlen := r.length
  refine tail_any (ops := [.ref a, .ref s4.heap.objs.size]) ht.typeIs (PyProof.Rows.slot_tuple_getitem.lookup) ?_ (by with_unfolding_all rfl)
  refine getItem_rev ht (Heap.IsSliceOf.new _ vl vu vs) pl pu ps ?_ (by rw [List.size_toArray]; omega)
  refine ⟨.ref _, _, I5.laid (t' := s4.toks) (o := .tup xs.reverse) (fun b ob q => Heap.get?_push_of_some _ q) (Nat.le_refl _) ?_, rfl, q _ (I5.hok.fresh (Nat.le_refl _))⟩
  exact ⟨by rw [List.length_reverse]; exact hz, its.reverse, r.reverse, _, Heap.get?_push_size _ rfl, rfl, 0, rfl⟩
end
end Pd

set_option maxHeartbeats 4000000
namespace Pd
open PySem PySem.Spec PyProof.Rows L2
/-! ### data: what a value stands for -/
inductive D where
  | non | bl (b : Bool) | int (i : Int) | str (s : Str) | oth (n : String) | tup (ds : List D)
mutual
inductive Tp (K : PySem.W.Frag) (H : Hp) : V → D → Prop
  | non : Tp K H .non .non
  | bl (b : Bool) : Tp K H (.bl b) (.bl b)
  | int (i : Int) : Tp K H (.int i) (.int i)
  | str (x : Str) : Tp K H (.str x) (.str x)
  | lst {a : Addr} {xs : List V} (h : H a = some (.lst xs)) : Tp K H (.ref a) (.oth "list")
  | dct {a : Addr} {kvs : List (Key × V)} (h : H a = some (.dK kvs)) : Tp K H (.ref a) (.oth "dict")
  | tup {a : Addr} {xs : List V} {ds : List D} (h : SqT K H a xs) (hs : TpAll K H xs ds) : Tp K H (.ref a) (.tup ds)
inductive TpAll (K : PySem.W.Frag) (H : Hp) : List V → List D → Prop
  | nil : TpAll K H [] []
  | cons {v : V} {vs : List V} {d : D} {ds : List D} (h : Tp K H v d) (hs : TpAll K H vs ds) : TpAll K H (v :: vs) (d :: ds)
end
/-- what was there is there, of its kind; tuples as they were -/
structure Le (H H' : Hp) : Prop where
  tup : ∀ a xs, H a = some (.tup xs) → H' a = some (.tup xs)
  lst : ∀ a xs, H a = some (.lst xs) → ∃ ys, H' a = some (.lst ys)
  dct : ∀ a d, H a = some (.dK d) → ∃ d', H' a = some (.dK d')
  frz : ∀ a o u, H a = some (.frz o u) → H' a = some (.frz o u)
section
variable {K : PySem.W.Frag} {H H1 H2 H' : Hp} {h : Addr}
theorem Le.refl (H : Hp) : Le H H := ⟨fun _ _ e => e, fun _ xs e => ⟨xs, e⟩, fun _ d e => ⟨d, e⟩, fun _ _ _ e => e⟩
theorem Le.trans (a : Le H H1) (b : Le H1 H2) : Le H H2 :=
  ⟨fun c xs e => b.tup c xs (a.tup c xs e), fun c xs e => let ⟨ys, q⟩ := a.lst c xs e; b.lst c ys q, fun c xs e => let ⟨ys, q⟩ := a.dct c xs e; b.dct c ys q, fun c o u e => b.frz c o u (a.frz c o u e)⟩
theorem Le.of (s : Same H H') : Le H H' := ⟨fun c xs e => s c _ e, fun c xs e => ⟨xs, s c _ e⟩, fun c xs e => ⟨xs, s c _ e⟩, fun c o u e => s c _ e⟩
theorem Same.new {p : Addr} {o : HO} (n : H p = none) : Same H (upd H p o) := fun b u e => by
  rw [upd_ne (ne_of_none e n)]
  exact e
theorem Le.new {p : Addr} {o : HO} (n : H p = none) : Le H (upd H p o) := .of (Same.new n)
/-- a list changes -/
theorem Le.put {p : Addr} {xs ys : List V} (e : H p = some (.lst xs)) : Le H (upd H p (.lst ys)) := by
  constructor
  · intro a zs q
    rw [upd_ne (ne_of q e (by intro z; cases z))]; exact q
  · intro a zs q
    by_cases ha : a = p
    · subst ha; exact ⟨ys, upd_same⟩
    · exact ⟨zs, by rw [upd_ne ha]; exact q⟩
  · intro a d q
    exact ⟨d, by rw [upd_ne (ne_of q e (by intro z; cases z))]; exact q⟩
  · intro a o u q
    rw [upd_ne (ne_of q e (by intro z; cases z))]; exact q
theorem Le.sqT {a : Addr} {xs : List V} (l : Le H H') (q : SqT K H a xs) : SqT K H' a xs := by
  rcases q with (q | ⟨o, q⟩) | q
  · exact .inl (.inl (l.tup _ _ q))
  · exact .inl (.inr ⟨o, l.frz _ _ _ q⟩)
  · exact .inr q
mutual
theorem Tp.mono (l : Le H H') : ∀ {v : V} {d : D}, Tp K H v d → Tp K H' v d
  | _, _, .non => .non
  | _, _, .bl b => .bl b
  | _, _, .int i => .int i
  | _, _, .str x => .str x
  | _, _, .lst e => let ⟨_, q⟩ := l.lst _ _ e; .lst q
  | _, _, .dct e => let ⟨_, q⟩ := l.dct _ _ e; .dct q
  | _, _, .tup e es => .tup (l.sqT e) (TpAll.mono l es)
theorem TpAll.mono (l : Le H H') : ∀ {vs : List V} {ds : List D}, TpAll K H vs ds → TpAll K H' vs ds
  | _, _, .nil => .nil
  | _, _, .cons e es => .cons (Tp.mono l e) (TpAll.mono l es)
end
theorem TpAll.len : ∀ {vs : List V} {ds : List D}, TpAll K H vs ds → vs.length = ds.length
  | _, _, .nil => rfl
  | _, _, .cons _ es => congrArg Nat.succ (TpAll.len es)
theorem TpAll.get : ∀ {vs : List V} {ds : List D} {i : Nat} {v : V}, TpAll K H vs ds → vs[i]? = some v → ∃ d, ds[i]? = some d ∧ Tp K H v d
  | _, _, _, _, .nil, e => by simp at e
  | _, _, 0, _, .cons h _, e => by simp at e; subst e; exact ⟨_, rfl, h⟩
  | _, _, i + 1, v, .cons _ t, e => by
    obtain ⟨d, h1, h2⟩ := TpAll.get (i := i) (v := v) t (by simpa using e)
    exact ⟨d, by simpa using h1, h2⟩
theorem TpAll.getD : ∀ {vs : List V} {ds : List D} {i : Nat} {d : D}, TpAll K H vs ds → ds[i]? = some d → ∃ v, vs[i]? = some v ∧ Tp K H v d
  | _, _, _, _, .nil, e => by simp at e
  | _, _, 0, _, .cons h _, e => by simp at e; subst e; exact ⟨_, rfl, h⟩
  | _, _, i + 1, d, .cons _ t, e => by
    obtain ⟨v, h1, h2⟩ := TpAll.getD (i := i) (d := d) t (by simpa using e)
    exact ⟨v, by simpa using h1, h2⟩
theorem TpAll.append : ∀ {vs ws : List V} {ds es : List D}, TpAll K H vs ds → TpAll K H ws es → TpAll K H (vs ++ ws) (ds ++ es)
  | _, _, _, _, .nil, s => s
  | _, _, _, _, .cons h t, s => .cons h (TpAll.append t s)
theorem TpAll.drop : ∀ (n : Nat) {vs : List V} {ds : List D}, TpAll K H vs ds → TpAll K H (vs.drop n) (ds.drop n)
  | 0, _, _, t => t
  | _ + 1, _, _, .nil => .nil
  | n + 1, _, _, .cons _ t => TpAll.drop n t
theorem TpAll.take : ∀ (n : Nat) {vs : List V} {ds : List D}, TpAll K H vs ds → TpAll K H (vs.take n) (ds.take n)
  | 0, _, _, _ => .nil
  | _ + 1, _, _, .nil => .nil
  | n + 1, _, _, .cons h t => .cons h (TpAll.take n t)
theorem TpAll.rev {vs : List V} {ds : List D} (t : TpAll K H vs ds) : TpAll K H vs.reverse ds.reverse := by
  induction vs generalizing ds with
  | nil => cases t; exact .nil
  | cons v vs ih =>
    cases t with
    | cons h t =>
      rw [List.reverse_cons, List.reverse_cons]
      exact (ih t).append (.cons h .nil)
theorem TpAll.rep {vs : List V} {ds : List D} (t : TpAll K H vs ds) : ∀ n : Nat, TpAll K H (List.replicate n vs).flatten (List.replicate n ds).flatten
  | 0 => .nil
  | n + 1 => by
    rw [List.replicate_succ, List.replicate_succ, List.flatten_cons, List.flatten_cons]
    exact t.append (TpAll.rep t n)
/-! ### the kinds of a datum -/
theorem SqT.ty {a : Addr} {xs : List V} (q : SqT K H a xs) : TyX K H (.ref a) (.type "tuple") := by
  rcases q with (q | ⟨o, q⟩) | q
  · exact .base (.tup q)
  · exact .fTuple q
  · obtain ⟨o, n, its, e, c, _⟩ := q
    exact .kTuple e c
end
end Pd

set_option maxHeartbeats 4000000
namespace Pd
open PySem PySem.Spec PyProof.Rows L2
/-! ### the hand -/
def HandAt (H : Hp) (h a : Addr) : Prop := ∃ (ns : List Int) (i c m k : Int), H h = some (.lst [.ref a, .int i, .int c, .int m, .int k]) ∧ H a = some (.lst (ns.map V.int)) ∧ a ≠ h ∧ 0 ≤ i ∧ 0 ≤ c ∧ 0 ≤ m ∧ m < 2147483399
def HandOk (H : Hp) (h : Addr) : Prop := ∃ a, HandAt H h a
/-- of what stood in H the hand alone changed -/
structure Go (h : Addr) (H H' : Hp) : Prop where
  hat : ∀ a, HandAt H h a → HandAt H' h a
  fr : ∀ b o, b ≠ h → H b = some o → H' b = some o
section
variable {K : PySem.W.Frag} {H H1 H2 H' : Hp} {h : Addr}
theorem HandOk.at (k : HandOk H h) : ∃ xs, H h = some (.lst xs) := let ⟨_, _, _, _, _, _, e, _⟩ := k; ⟨_, e⟩
theorem Go.ok (g : Go h H H') (k : HandOk H h) : HandOk H' h := let ⟨a, k⟩ := k; ⟨a, g.hat a k⟩
theorem Go.refl : Go h H H := ⟨fun _ k => k, fun _ _ _ e => e⟩
theorem Go.trans (a : Go h H H1) (b : Go h H1 H2) : Go h H H2 := ⟨fun c k => b.hat c (a.hat c k), fun c o n e => b.fr c o n (a.fr c o n e)⟩
theorem Go.le (g : Go h H H') (k : HandOk H h) : Le H H' := by
  obtain ⟨xs, e⟩ := k.at
  obtain ⟨ys, e'⟩ := (g.ok k).at
  refine ⟨fun a zs q => g.fr a _ (ne_of q e (by intro z; cases z)) q, fun a zs q => ?_, fun a d q => ⟨d, g.fr a _ (ne_of q e (by intro z; cases z)) q⟩, fun a o u q => g.fr a _ (ne_of q e (by intro z; cases z)) q⟩
  by_cases ha : a = h
  · subst ha; exact ⟨ys, e'⟩
  · exact ⟨zs, g.fr a _ ha q⟩
theorem Go.same (s : Same H H') : Go h H H' := ⟨fun a ⟨ns, i, c, m, k, e1, e2, r⟩ => ⟨ns, i, c, m, k, s _ _ e1, s _ _ e2, r⟩, fun b o _ e => s b o e⟩
theorem HandOk.same (k : HandOk H h) (s : Same H H') : HandOk H' h := (Go.same s).ok k
theorem Go.new {p : Addr} {o : HO} (n : H p = none) : Go h H (upd H p o) := .same (Same.new n)
/-- what is new changes -/
theorem Go.put {p : Addr} {o : HO} (g : Go h H H') (n : H p = none) : Go h H (upd H' p o) := by
  refine ⟨fun a k => ?_, fun b u hb e => by rw [upd_ne (ne_of_none e n)]; exact g.fr b u hb e⟩
  obtain ⟨ns, i, c, m, k, e1, e2, r⟩ := k
  obtain ⟨ns', i', c', m', k', e1', e2', r'⟩ := g.hat a ⟨ns, i, c, m, k, e1, e2, r⟩
  exact ⟨ns', i', c', m', k', by rw [upd_ne (ne_of_none e1 n)]; exact e1', by rw [upd_ne (ne_of_none e2 n)]; exact e2', r'⟩
theorem Go.free {p : Addr} (g : Go h H H') (k : HandOk H h) (n : H' p = none) : H p = none := by
  cases e : H p with
  | none => rfl
  | some o =>
    by_cases hp : p = h
    · subst hp
      obtain ⟨ys, e'⟩ := (g.ok k).at
      rw [n] at e'; cases e'
    · rw [g.fr p o hp e] at n; cases n
theorem HandOk.ne_new {p : Addr} (k : HandOk H h) (n : H p = none) : p ≠ h := by
  obtain ⟨xs, e⟩ := k.at
  exact (ne_of_none e n).symm
/-- the promise of a draw, sizes up to b -/
def spDraw (b : Int) : Sp := fun vs H Q _ => ∃ (h : Addr) (n : Int), vs = [.ref h, .int n] ∧ HandOk H h ∧ 1 ≤ n ∧ n ≤ b ∧ ∀ v H', Go h H H' → 0 ≤ v → v < n → Q (.int v) H'
/-- the hand made -/
def spHand (K : PySem.W.Frag) : Sp := fun vs H Q _ => ∃ (a : Addr) (ns : List Int), vs = [.ref a] ∧ SqL K H a (ns.map V.int) ∧ ∀ h H', Same H H' → H h = none → HandOk H' h → Q (.ref h) H'
/-- the hand's own row is set -/
theorem hand_put {a : Addr} {ns : List Int} {ys : List V} {i c m k : Int} (e0 : H h = some (.lst (.ref a :: ys))) (e1 : H a = some (.lst (ns.map V.int))) (hn : a ≠ h) (h1 : 0 ≤ i) (h2 : 0 ≤ c) (h3 : 0 ≤ m) (h4 : m < 2147483399) :
    Go h H (upd H h (.lst [.ref a, .int i, .int c, .int m, .int k])) := by
  refine ⟨fun b kb => ?_, fun b o hb e => by rw [upd_ne hb]; exact e⟩
  obtain ⟨ns', i', c', m', k', q1, q2, _⟩ := kb
  rw [e0] at q1
  have : a = b := by
    injection q1 with z; injection z with z; injection z with z _; injection z
  subst this
  exact ⟨ns, i, c, m, k, upd_same, by rw [upd_ne hn]; exact e1, hn, h1, h2, h3, h4⟩
end
end Pd

set_option maxHeartbeats 4000000
namespace Pd
open PySem PySem.Spec PyProof.Rows L2
/-! ### kinds of data, isinstance -/
def D.ty : D → String
  | .non => "NoneType" | .bl _ => "bool" | .int _ => "int" | .str _ => "str" | .oth n => n | .tup _ => "tuple"
def D.isTup : D → Bool
  | .tup _ => true
  | _ => false
def D.isNum : D → Bool
  | .int _ => true
  | .bl _ => true
  | _ => false
def D.isBool : D → Bool
  | .bl _ => true
  | _ => false
section
variable {K : PySem.W.Frag} {H H' : Hp} {v : V} {d : D} {Q : VK}
theorem Tp.ty (t : Tp K H v d) : TyX K H v (.type d.ty) := by
  cases t with
  | non => exact .base .non
  | bl b => exact .base (.bl b)
  | int i => exact .base (.int i)
  | str x => exact .base (.str x)
  | lst h => exact .base (.lst h)
  | dct h => exact .base (.dK h)
  | tup h hs => exact SqT.ty h
theorem Tp.kTup (t : Tp K H v d) : PySem.W.kitOne K (.type d.ty) (.type "tuple") = some d.isTup := by
  cases t with
  | non => exact kit_ty (by show kitB "NoneType" "tuple" = some false; decide +kernel)
  | bl b => exact kit_ty (by show kitB "bool" "tuple" = some false; decide +kernel)
  | int i => exact kit_ty (by show kitB "int" "tuple" = some false; decide +kernel)
  | str x => exact kit_ty (by show kitB "str" "tuple" = some false; decide +kernel)
  | lst h => exact kit_ty (by show kitB "list" "tuple" = some false; decide +kernel)
  | dct h => exact kit_ty (by show kitB "dict" "tuple" = some false; decide +kernel)
  | tup h hs => exact kit_ty (by show kitB "tuple" "tuple" = some true; decide +kernel)
theorem Tp.kInt (t : Tp K H v d) : PySem.W.kitOne K (.type d.ty) (.type "int") = some d.isNum := by
  cases t with
  | non => exact kit_ty (by show kitB "NoneType" "int" = some false; decide +kernel)
  | bl b => exact kit_ty (by show kitB "bool" "int" = some true; decide +kernel)
  | int i => exact kit_ty (by show kitB "int" "int" = some true; decide +kernel)
  | str x => exact kit_ty (by show kitB "str" "int" = some false; decide +kernel)
  | lst h => exact kit_ty (by show kitB "list" "int" = some false; decide +kernel)
  | dct h => exact kit_ty (by show kitB "dict" "int" = some false; decide +kernel)
  | tup h hs => exact kit_ty (by show kitB "tuple" "int" = some false; decide +kernel)
theorem Tp.kBool (t : Tp K H v d) : PySem.W.kitOne K (.type d.ty) (.type "bool") = some d.isBool := by
  cases t with
  | non => exact kit_ty (by show kitB "NoneType" "bool" = some false; decide +kernel)
  | bl b => exact kit_ty (by show kitB "bool" "bool" = some true; decide +kernel)
  | int i => exact kit_ty (by show kitB "int" "bool" = some false; decide +kernel)
  | str x => exact kit_ty (by show kitB "str" "bool" = some false; decide +kernel)
  | lst h => exact kit_ty (by show kitB "list" "bool" = some false; decide +kernel)
  | dct h => exact kit_ty (by show kitB "dict" "bool" = some false; decide +kernel)
  | tup h hs => exact kit_ty (by show kitB "tuple" "bool" = some false; decide +kernel)
theorem Tp.tupOf (t : Tp K H v d) (h : d.isTup = true) : ∃ a xs ds, v = .ref a ∧ d = .tup ds ∧ SqT K H a xs ∧ TpAll K H xs ds := by
  cases t with
  | tup h1 hs => exact ⟨_, _, _, rfl, rfl, h1, hs⟩
  | _ => cases h
theorem Tp.intOf (t : Tp K H v d) (h : d.isNum = true) (h2 : d.isBool = false) : ∃ i, v = .int i ∧ d = .int i := by
  cases t with
  | int i => exact ⟨i, rfl, rfl⟩
  | bl b => cases h2
  | _ => cases h
/-- a <= b <= c as a test -/
theorem chain_le {i j k : Int} {Q' : Bool → Hp → Prop} {tc : TE} {σ : L2.St} (hc : ∀ Q2 : VK, Q2 (.int k) H → tc σ H Q2) (q : Q' (decide (i ≤ j) && decide (j ≤ k)) H) :
    ∃ k1, V.bl (decide (i ≤ j)) = .bl k1 ∧ (if k1 = true then tc σ H fun w' H4 => (rI0 fun i j => .bl (decide (i ≤ j))) (.int j) w' H4 (fun (x : V) H' => ∃ k, x = V.bl k ∧ Q' k H') else (fun (x : V) H' => ∃ k, x = V.bl k ∧ Q' k H') (.bl false) H) := by
  refine ⟨_, rfl, ?_⟩
  by_cases h : i ≤ j
  · rw [decide_eq_true h] at q ⊢
    rw [if_pos rfl]
    exact hc _ ⟨j, k, rfl, rfl, _, rfl, q⟩
  · rw [decide_eq_false h] at q ⊢
    rw [if_neg Bool.false_ne_true]
    exact ⟨_, rfl, q⟩
/-- the same as a value -/
theorem chain_leV {i j k : Int} {Q' : VK} {tc : TE} {σ : L2.St} (hc : ∀ Q2 : VK, Q2 (.int k) H → tc σ H Q2) (q : Q' (.bl (decide (i ≤ j) && decide (j ≤ k))) H) :
    ∃ k1, V.bl (decide (i ≤ j)) = .bl k1 ∧ (if k1 = true then tc σ H fun w' H4 => (rI0 fun i j => .bl (decide (i ≤ j))) (.int j) w' H4 Q' else Q' (.bl false) H) := by
  refine ⟨_, rfl, ?_⟩
  by_cases h : i ≤ j
  · rw [decide_eq_true h] at q ⊢
    rw [if_pos rfl]
    exact hc _ ⟨j, k, rfl, rfl, q⟩
  · rw [decide_eq_false h] at q ⊢
    rw [if_neg Bool.false_ne_true]
    exact q
end
/-! ### webs -/
def isInt (lo hi : Int) : D → Bool
  | .int i => decide (lo ≤ i) && decide (i ≤ hi)
  | _ => false
def isMove (many : Int) : D → Bool
  | .tup [a, b] => isInt (-1000000) 1000000 a && isInt 0 (many - 1) b
  | _ => false
def isNode (many : Int) : D → Bool
  | .tup ds => (decide ((1 : Int) ≤ ds.length) && decide ((ds.length : Int) ≤ 12)) && ds.all (isMove many)
  | _ => false
def isWeb : D → Bool
  | .tup ds => (decide ((1 : Int) ≤ ds.length) && decide ((ds.length : Int) ≤ 120)) && ds.all (isNode ds.length)
  | _ => false
theorem isMove_len {many : Int} {es : List D} (h : es.length ≠ 2) : isMove many (.tup es) = false := by
  match es, h with
  | [], _ => rfl
  | [_], _ => rfl
  | [_, _], h => exact absurd rfl h
  | _ :: _ :: _ :: _, _ => rfl
theorem isMove_tup {many : Int} {d : D} (h : d.isTup = false) : isMove many d = false := by
  cases d with
  | tup => cases h
  | _ => rfl
theorem isNode_tup {many : Int} {d : D} (h : d.isTup = false) : isNode many d = false := by
  cases d with
  | tup => cases h
  | _ => rfl
theorem isWeb_tup {d : D} (h : d.isTup = false) : isWeb d = false := by
  cases d with
  | tup => cases h
  | _ => rfl
theorem isInt_num {lo hi : Int} {d : D} (h : d.isNum = false) : isInt lo hi d = false := by
  cases d with
  | int => cases h
  | _ => rfl
theorem isInt_bool {lo hi : Int} {d : D} (h : d.isBool = true) : isInt lo hi d = false := by
  cases d with
  | int => cases h
  | _ => rfl
theorem all_not {α : Type} {p : α → Bool} {l : List α} {i : Nat} {x : α} (h : l[i]? = some x) (hx : p x = false) : l.all p = false := by
  rw [List.all_eq_false]
  exact ⟨x, List.mem_of_getElem? h, by rw [hx]; exact Bool.false_ne_true⟩
theorem all_take {α : Type} {p : α → Bool} {l : List α} {i : Nat} {x : α} (h : l[i]? = some x) (ha : (l.take i).all p = true) (hx : p x = true) : (l.take (i + 1)).all p = true := by
  rw [List.take_add_one, h, List.all_append, ha]
  simp [hx]
def spIsInteger (K : PySem.W.Frag) : Sp := fun vs H Q _ => ∃ (v : V) (lo hi : Int) (d : D), vs = [v, .int lo, .int hi] ∧ Tp K H v d ∧ Q (.bl (isInt lo hi d)) H
def spIsNode (K : PySem.W.Frag) : Sp := fun vs H Q _ => ∃ (v : V) (many : Int) (d : D), vs = [v, .int many] ∧ Tp K H v d ∧ Q (.bl (isNode many d)) H
def spIsWeb (K : PySem.W.Frag) : Sp := fun vs H Q _ => ∃ (v : V) (d : D), vs = [v] ∧ Tp K H v d ∧ ∀ H', Same H H' → Q (.bl (isWeb d)) H'
end Pd

set_option maxHeartbeats 4000000
namespace Pd
open PySem PySem.Spec PyProof.Rows L2
/-! ### a right web, by its numbers -/
abbrev Web := List (List (Int × Int))
def moveD (m : Int × Int) : D := .tup [.int m.1, .int m.2]
def nodeD (nd : List (Int × Int)) : D := .tup (nd.map moveD)
def webD (w : Web) : D := .tup (w.map nodeD)
def OkMove (n : Int) (m : Int × Int) : Prop := -1000000 ≤ m.1 ∧ m.1 ≤ 1000000 ∧ 0 ≤ m.2 ∧ m.2 < n
def OkNode (n : Int) (nd : List (Int × Int)) : Prop := 1 ≤ nd.length ∧ nd.length ≤ 12 ∧ ∀ m ∈ nd, OkMove n m
def OkWeb (w : Web) : Prop := 1 ≤ w.length ∧ w.length ≤ 120 ∧ ∀ nd ∈ w, OkNode w.length nd
theorem isMove_ok {n : Int} {m : Int × Int} (h : OkMove n m) : isMove n (moveD m) = true := by
  obtain ⟨h1, h2, h3, h4⟩ := h
  show ((decide (-1000000 ≤ m.1) && decide (m.1 ≤ 1000000)) && (decide (0 ≤ m.2) && decide (m.2 ≤ n - 1))) = true
  rw [decide_eq_true h1, decide_eq_true h2, decide_eq_true h3, decide_eq_true (show m.2 ≤ n - 1 by omega)]
  rfl
theorem isNode_ok {n : Int} {nd : List (Int × Int)} (h : OkNode n nd) : isNode n (nodeD nd) = true := by
  obtain ⟨h1, h2, h3⟩ := h
  show ((decide ((1 : Int) ≤ (nd.map moveD).length) && decide (((nd.map moveD).length : Int) ≤ 12)) && (nd.map moveD).all (isMove n)) = true
  rw [List.length_map, decide_eq_true (show (1 : Int) ≤ nd.length by omega), decide_eq_true (show (nd.length : Int) ≤ 12 by omega), Bool.true_and, Bool.true_and, List.all_eq_true]
  intro x hx
  obtain ⟨m, hm, rfl⟩ := List.mem_map.mp hx
  exact isMove_ok (h3 m hm)
theorem isWeb_ok {w : Web} (h : OkWeb w) : isWeb (webD w) = true := by
  obtain ⟨h1, h2, h3⟩ := h
  show ((decide ((1 : Int) ≤ (w.map nodeD).length) && decide (((w.map nodeD).length : Int) ≤ 120)) && (w.map nodeD).all (isNode (w.map nodeD).length)) = true
  rw [List.length_map, decide_eq_true (show (1 : Int) ≤ w.length by omega), decide_eq_true (show (w.length : Int) ≤ 120 by omega), Bool.true_and, Bool.true_and, List.all_eq_true]
  intro x hx
  obtain ⟨m, hm, rfl⟩ := List.mem_map.mp hx
  exact isNode_ok (h3 m hm)
/-- an item picked by a bounded number -/
theorem pick {α : Type} {xs : List α} {v : Int} (h0 : 0 ≤ v) (h1 : v < xs.length) : ∃ x, atI xs v = some x ∧ x ∈ xs := by
  have hj : v.toNat < xs.length := by omega
  refine ⟨xs[v.toNat], ?_, List.getElem_mem hj⟩
  have e : v = ((v.toNat : Nat) : Int) := by omega
  have z := atI_nat (xs := xs) (j := v.toNat) (List.getElem?_eq_getElem hj)
  rw [← e] at z
  exact z
theorem pickI {α : Type} {xs : List α} {v : Int} (h0 : 0 ≤ v) (h1 : v < xs.length) : ∃ x, atI xs v = some x ∧ xs[v.toNat]? = some x := by
  have hj : v.toNat < xs.length := by omega
  refine ⟨xs[v.toNat], ?_, List.getElem?_eq_getElem hj⟩
  have e : v = ((v.toNat : Nat) : Int) := by omega
  have z := atI_nat (xs := xs) (j := v.toNat) (List.getElem?_eq_getElem hj)
  rw [← e] at z
  exact z
def spWeb (K : PySem.W.Frag) : Sp := fun vs H Q _ => ∃ (h : Addr) (most : Int), vs = [.ref h, .int most] ∧ HandOk H h ∧ 1 ≤ most ∧ most ≤ 100 ∧ ∀ v H' w, Go h H H' → Tp K H' v (webD w) → OkWeb w → (w.length : Int) ≤ most → Q v H'
end Pd

set_option maxHeartbeats 4000000
namespace Pd
open PySem PySem.Spec PyProof.Rows L2
/-! ### readings, one step each (so that the kernel meets like heads) -/
section
variable {σ : L2.St} {H : Hp} {Q : VK} {D : Ends} {te ta tb : TE} {t tr : TA} {g : TG} {u z : TS} {r : R2} {v : V}
theorem r_asg (h : te σ H fun x H1 => g x σ H1 (u D)) : tSeq (tAsg te g) u D σ H := h
theorem r_seq (h : z { D with nx := u D } σ H) : tSeq z u D σ H := h
theorem r_lst (h : t σ H fun xs H1 => xs.length ≤ sizeLine ∧ ∀ p, H1 p = none → Q (.ref p) (upd H1 p (.lst xs))) : tLst t σ H Q := h
theorem r_tup (h : t σ H fun xs H1 => xs.length ≤ sizeLine ∧ ∀ p, H1 p = none → Q (.ref p) (upd H1 p (.tup xs))) : tTup t σ H Q := h
theorem r_op (h : ta σ H fun x H1 => tb σ H1 fun y H2 => r x y H2 Q) : tOp r ta tb σ H Q := h
theorem r_var {i : Nat} (e : σ[i]? = some (some v)) (h : Q v H) : tVar i σ H Q := ⟨v, e, h⟩
theorem r_cons {Q : List V → Hp → Prop} (h : te σ H fun x H1 => tr σ H1 fun xs H2 => Q (x :: xs) H2) : tCons te tr σ H Q := h
theorem r_ret (h : te σ H D.rt) : tRet te D σ H := h
theorem r_cb {rr : List V → Hp → VK → Prop} (h : t σ H fun vs H1 => rr vs H1 Q) : tCB rr t σ H Q := h
theorem r_call {sp : Sp} {dvs : List V} {E : XK} (h : t σ H fun vs H1 => sp (vs ++ dvs) H1 Q E) : tCall sp dvs E t σ H Q := h
end
/-! ### expressions that make data: an int without a change of the heap; some datum, some data -/
theorem szl {n : Nat} (h : n ≤ 100000) : n ≤ sizeLine := Nat.le_trans h (by decide)
def EvI (te : TE) (σ : L2.St) (i : Int) : Prop := ∀ (H : Hp) (Q : VK), Q (.int i) H → te σ H Q
def EvA (K : PySem.W.Frag) (te : TE) (σ : L2.St) : Prop := ∀ (H : Hp) (Q : VK), (∀ v H' d, Same H H' → Tp K H' v d → Q v H') → te σ H Q
def EvAs (K : PySem.W.Frag) (n : Nat) (ta : TA) (σ : L2.St) : Prop := ∀ (H : Hp) (Q : List V → Hp → Prop), (∀ vs H' ds, Same H H' → TpAll K H' vs ds → vs.length = n → Q vs H') → ta σ H Q
section
variable {K : PySem.W.Frag} {σ : L2.St} {te ta tb : TE} {t : TA} {i j : Int} {n : Nat}
theorem ei_c : EvI (tC (.int i)) σ i := fun _ _ q => q
theorem ei_var {m : Nat} (h : σ[m]? = some (some (.int i))) : EvI (tVar m) σ i := fun _ _ q => ⟨_, h, q⟩
theorem ei_neg (h : EvI te σ i) : EvI (tUn (rU fun i => .int (-i)) te) σ (-i) := fun H Q q => h H _ ⟨i, rfl, q⟩
theorem ei_op0 {g : Int → Int → Int} (h1 : EvI ta σ i) (h2 : EvI tb σ j) : EvI (tOp (rI0 fun i j => .int (g i j)) ta tb) σ (g i j) := fun H Q q => h1 H _ (h2 H _ ⟨i, j, rfl, rfl, q⟩)
theorem ei_op {C : Int → Int → Prop} {g : Int → Int → Int} (h1 : EvI ta σ i) (h2 : EvI tb σ j) (hc : C i j) : EvI (tOp (rI C fun i j => .int (g i j)) ta tb) σ (g i j) := fun H Q q => h1 H _ (h2 H _ ⟨i, j, rfl, rfl, hc, q⟩)
theorem ea_int (h : EvI te σ i) : EvA K te σ := fun H Q q => h H Q (q _ H _ (Same.refl H) (.int i))
theorem ea_non : EvA K (tC .non) σ := fun H Q q => q _ H _ (Same.refl H) .non
theorem ea_bl {b : Bool} : EvA K (tC (.bl b)) σ := fun H Q q => q _ H _ (Same.refl H) (.bl b)
theorem ea_str {x : Str} : EvA K (tC (.str x)) σ := fun H Q q => q _ H _ (Same.refl H) (.str x)
theorem ea_tup (h : EvAs K n t σ) (hn : n ≤ 100000) : EvA K (tTup t) σ := fun H Q q => h H _ fun vs H' ds s ts l => ⟨szl (by omega), fun p hp => q _ _ _ (s.trans (Same.new hp)) (.tup (SqT.of upd_same) (ts.mono (Le.new hp)))⟩
theorem ea_lst (h : EvAs K n t σ) (hn : n ≤ 100000) : EvA K (tLst t) σ := fun H Q q => h H _ fun vs H' ds s ts l => ⟨szl (by omega), fun p hp => q _ _ _ (s.trans (Same.new hp)) (.lst upd_same)⟩
theorem eas_nil : EvAs K 0 tNil σ := fun H Q q => q _ H _ (Same.refl H) .nil rfl
theorem eas_cons (h1 : EvA K te σ) (h2 : EvAs K n t σ) : EvAs K (n + 1) (tCons te t) σ := fun H Q q =>
  h1 H _ fun v H1 d s1 t1 => h2 H1 _ fun vs H2 ds s2 ts l => q _ _ _ (s1.trans s2) (.cons (t1.mono (Le.of s2)) ts) (congrArg Nat.succ l)
end
end Pd

set_option maxHeartbeats 4000000
namespace Pd
open PySem PySem.Spec PyProof.Rows L2
/-! ### expressions that make a tuple of data, of at most n items, from what stands in H -/
def EvT (K : PySem.W.Frag) (lo hi : Nat) (te : TE) (σ : L2.St) (H : Hp) : Prop := ∀ H1, Same H H1 → ∀ Q : VK, (∀ v H2 ds, Same H1 H2 → Tp K H2 v (.tup ds) → lo ≤ ds.length → ds.length ≤ hi → Q v H2) → te σ H1 Q
def EvD (K : PySem.W.Frag) (te : TE) (σ : L2.St) (H : Hp) : Prop := ∀ H1, Same H H1 → ∀ Q : VK, (∀ v H2 d, Same H1 H2 → Tp K H2 v d → Q v H2) → te σ H1 Q
def EvOp (to : TO) (σ : L2.St) : Prop := ∀ (H : Hp) (Q : Option Int → Hp → Prop), (∀ o, Q o H) → to σ H Q
section
variable {K : PySem.W.Frag} {σ : L2.St} {te ta tb : TE} {t : TA} {tl th : TO} {H : Hp} {n m lo hi : Nat} {v : V} {d : D} {ds : List D} {i : Int}
theorem eo_no : EvOp tNoPart σ := fun _ _ q => q none
theorem eo_int (h : EvI te σ i) : EvOp (tPart te) σ := fun H Q q => h H _ ⟨i, rfl, q _⟩
theorem ed_var {j : Nat} (h : σ[j]? = some (some v)) (t : Tp K H v d) : EvD K (tVar j) σ H := fun H1 s Q q => ⟨v, h, q v H1 d (Same.refl _) (t.mono (Le.of s))⟩
theorem et_var {j : Nat} (h : σ[j]? = some (some v)) (t : Tp K H v (.tup ds)) (h1 : lo ≤ ds.length) (h2 : ds.length ≤ hi) : EvT K lo hi (tVar j) σ H := fun H1 s Q q => ⟨v, h, q v H1 ds (Same.refl _) (t.mono (Le.of s)) h1 h2⟩
theorem Tp.sq {H : Hp} {v : V} {ds : List D} (t : Tp K H v (.tup ds)) : ∃ a xs, v = .ref a ∧ SqT K H a xs ∧ TpAll K H xs ds := by
  cases t with
  | tup h hs => exact ⟨_, _, rfl, h, hs⟩
theorem et_sl (h : EvT K lo hi te σ H) (hl : EvOp tl σ) (hh : EvOp th σ) : EvT K 0 hi (tSl (rSlA K) te tl th) σ H := fun H1 s Q q => by
  refine h H1 s _ fun v H2 ds s2 tp h1 h2 => hl H2 _ fun o1 => hh H2 _ fun o2 => ?_
  obtain ⟨a, xs, rfl, hS, hs⟩ := tp.sq
  refine ⟨a, xs, rfl, hS, fun _ => q _ _ ds s2 tp (Nat.zero_le _) h2, fun _ p hp => ?_⟩
  refine q _ _ ((ds.drop (HT.sIx xs.length 0 o1)).take (HT.sIx xs.length xs.length o2 - HT.sIx xs.length 0 o1)) (s2.trans (Same.new hp)) (.tup (SqT.of upd_same) (TpAll.mono (Le.new hp) ((hs.drop _).take _))) (Nat.zero_le _) ?_
  rw [List.length_take, List.length_drop]
  omega
/-- t[:1] of one that is not empty -/
theorem et_sl1 (h : EvT K 1 hi te σ H) : EvT K 1 1 (tSl (rSlA K) te tNoPart (tPart (tC (.int 1)))) σ H := fun H1 s Q q => by
  refine h H1 s _ fun v H2 ds s2 tp h1 h2 => ?_
  obtain ⟨a, xs, rfl, hS, hs⟩ := tp.sq
  have hl : xs.length = ds.length := hs.len
  have e1 : HT.sIx xs.length 0 none = 0 := rfl
  have e2 : HT.sIx xs.length xs.length (some 1) = 1 := by
    rw [show HT.sIx xs.length xs.length (some 1) = min 1 xs.length from HT.sIx_nat xs.length xs.length 1]
    omega
  refine ⟨1, rfl, a, xs, rfl, hS, fun hw => q _ _ ds s2 tp h1 (by rw [e1, e2] at hw; omega), fun _ p hp => ?_⟩
  refine q _ _ ((ds.drop 0).take 1) (s2.trans (Same.new hp)) (.tup (SqT.of upd_same) ?_) (by rw [List.length_take, List.drop_zero]; omega) (by rw [List.length_take, List.drop_zero]; omega)
  unfold cutV
  rw [e1, e2]
  exact TpAll.mono (Le.new hp) ((hs.drop _).take _)
theorem et_cat {l1 l2 h1 h2 : Nat} (ha : EvT K l1 h1 ta σ H) (hb : EvT K l2 h2 tb σ H) (hz : h1 + h2 ≤ 100000) : EvT K (l1 + l2) (h1 + h2) (tOp (rCatA K) ta tb) σ H := fun H1 s Q q => by
  refine ha H1 s _ fun v H2 ds s2 tp a1 a2 => hb H2 (s.trans s2) _ fun u H3 es s3 tq b1 b2 => ?_
  obtain ⟨a, xs, rfl, hS, hs⟩ := (tp.mono (Le.of s3)).sq
  obtain ⟨b, ys, rfl, hT, ht⟩ := tq.sq
  have e1 := hs.len
  have e2 := ht.len
  refine ⟨a, b, xs, ys, rfl, rfl, hS, hT, szl (by omega), fun z => ?_, fun _ z => ?_, fun _ _ p hp => ?_⟩
  · subst z
    rw [List.length_nil] at e1
    exact q _ _ es (s2.trans s3) tq (by omega) (by omega)
  · subst z
    rw [List.length_nil] at e2
    exact q _ _ ds (s2.trans s3) (tp.mono (Le.of s3)) (by omega) (by omega)
  · exact q _ _ (ds ++ es) ((s2.trans s3).trans (Same.new hp)) (.tup (SqT.of upd_same) ((hs.append ht).mono (Le.new hp))) (by rw [List.length_append]; omega) (by rw [List.length_append]; omega)
theorem et_one (h : EvD K te σ H) : EvT K 1 1 (tTup (tCons te tNil)) σ H := fun H1 s Q q =>
  h H1 s _ fun v H2 d s2 tp => ⟨szl (by show 1 ≤ 100000; decide), fun p hp => q _ _ [d] (s2.trans (Same.new hp)) (.tup (SqT.of upd_same) (.cons (tp.mono (Le.new hp)) .nil)) (Nat.le_refl _) (Nat.le_refl _)⟩
theorem et_rev (h : EvT K lo hi te σ H) : EvT K lo hi (tRevT K te) σ H := fun H1 s Q q => by
  refine h H1 s _ fun v H2 ds s2 tp h1 h2 => ?_
  obtain ⟨a, xs, rfl, hS, hs⟩ := tp.sq
  exact ⟨a, xs, rfl, hS, fun p hp => q _ _ ds.reverse (s2.trans (Same.new hp)) (.tup (SqT.of upd_same) (hs.rev.mono (Le.new hp))) (by rw [List.length_reverse]; exact h1) (by rw [List.length_reverse]; exact h2)⟩
theorem rep_len {α : Type} (l : List α) : ∀ n : Nat, (List.replicate n l).flatten.length = n * l.length
  | 0 => by simp
  | n + 1 => by rw [List.replicate_succ, List.flatten_cons, List.length_append, rep_len l n, Nat.succ_mul, Nat.add_comm]
theorem et_rep (h : EvT K 1 hi te σ H) (hh : hi ≤ 1000) (h1 : 2 ≤ i) (h2 : i ≤ 1000) (he : EvI tb σ i) (hz : i.toNat * hi ≤ 100000) : EvT K 0 (i.toNat * hi) (tOp (rRepT K) te tb) σ H := fun H1 s Q q => by
  refine h H1 s _ fun v H2 ds s2 tp a1 a2 => he H2 _ ?_
  obtain ⟨a, xs, rfl, hS, hs⟩ := tp.sq
  have e1 := hs.len
  refine ⟨a, i, xs, rfl, rfl, hS, fun z => by rw [z] at e1; rw [List.length_nil] at e1; omega, h1, h2, by omega, fun p hp => ?_⟩
  refine q _ _ _ (s2.trans (Same.new hp)) (.tup (SqT.of upd_same) ((hs.rep i.toNat).mono (Le.new hp))) (Nat.zero_le _) ?_
  rw [rep_len]
  exact Nat.mul_le_mul_left _ a2
theorem EvT.ed (h : EvT K lo hi te σ H) : EvD K te σ H := fun H1 s Q q => h H1 s Q fun v H2 ds s2 t _ _ => q v H2 _ s2 t
theorem ed_list (h : EvT K lo hi te σ H) : EvD K (tCB (fun xs H Q => ∃ p ys, xs = [.ref p] ∧ (SqL K H p ys ∨ SqT K H p ys) ∧ ∀ l, H l = none → Q (.ref l) (upd H l (.lst ys))) (tCons te tNil)) σ H := fun H1 s Q q => by
  refine h H1 s _ fun v H2 ds s2 tp _ _ => ?_
  obtain ⟨a, xs, rfl, hS, hs⟩ := tp.sq
  exact ⟨a, xs, rfl, .inr hS, fun p hp => q _ _ _ (s2.trans (Same.new hp)) (.lst upd_same)⟩
end
end Pd

set_option maxHeartbeats 4000000
namespace Pd
open PySem PySem.Spec PyProof.Rows L2
/-! ### the nodes that are met -/
def nodeAt (w : Web) (t : Int) : List (Int × Int) := w[t.toNat]?.getD []
inductive Reach (w : Web) (s : Int) : Int → Prop
  | refl : Reach w s s
  | step {t : Int} {m : Int × Int} (h : Reach w s t) (hm : m ∈ nodeAt w t) : Reach w s m.2
def MetList (w : Web) (s : Int) (l : List Int) : Prop := l.Pairwise (· < ·) ∧ ∀ t, t ∈ l ↔ Reach w s t
theorem lt_nodup {l : List Int} (h1 : l.Pairwise (· ≤ ·)) (h2 : l.Nodup) : l.Pairwise (· < ·) := by
  refine (h1.and h2).imp fun {a b} h => ?_
  obtain ⟨h, n⟩ := h
  omega
theorem lt_uniq : ∀ {l l' : List Int}, l.Pairwise (· < ·) → l'.Pairwise (· < ·) → (∀ t, t ∈ l ↔ t ∈ l') → l = l'
  | [], [], _, _, _ => rfl
  | [], b :: bs, _, _, h => absurd ((h b).mpr (List.mem_cons_self ..)) (by simp)
  | a :: as, [], _, _, h => absurd ((h a).mp (List.mem_cons_self ..)) (by simp)
  | a :: as, b :: bs, h1, h2, h => by
    rw [List.pairwise_cons] at h1 h2
    have e : a = b := by
      have ha := (h a).mp (List.mem_cons_self ..)
      have hb := (h b).mpr (List.mem_cons_self ..)
      rw [List.mem_cons] at ha hb
      rcases ha with ha | ha
      · exact ha
      rcases hb with hb | hb
      · exact hb.symm
      have := h1.1 b hb
      have := h2.1 a ha
      omega
    subst e
    congr 1
    refine lt_uniq h1.2 h2.2 fun t => ⟨fun ht => ?_, fun ht => ?_⟩
    · have := (h t).mp (List.mem_cons_of_mem _ ht)
      rw [List.mem_cons] at this
      rcases this with z | z
      · subst z
        have := h1.1 _ ht
        omega
      · exact z
    · have := (h t).mpr (List.mem_cons_of_mem _ ht)
      rw [List.mem_cons] at this
      rcases this with z | z
      · subst z
        have := h2.1 _ ht
        omega
      · exact z
theorem MetList.uniq {w : Web} {s : Int} {l l' : List Int} (h : MetList w s l) (h' : MetList w s l') : l = l' :=
  lt_uniq h.1 h'.1 fun t => (h.2 t).trans (h'.2 t).symm
theorem nodeAt_mem {w : Web} {t : Int} (h0 : 0 ≤ t) (h1 : t < w.length) : w[t.toNat]? = some (nodeAt w t) ∧ nodeAt w t ∈ w := by
  have hj : t.toNat < w.length := by omega
  unfold nodeAt
  rw [List.getElem?_eq_getElem hj]
  exact ⟨rfl, List.getElem_mem hj⟩
theorem nodeAt_ok {w : Web} {t : Int} (ok : OkWeb w) (h0 : 0 ≤ t) (h1 : t < w.length) : OkNode w.length (nodeAt w t) := ok.2.2 _ (nodeAt_mem h0 h1).2
theorem Reach.inside {w : Web} {s t : Int} (ok : OkWeb w) (h0 : 0 ≤ s) (h1 : s < w.length) (h : Reach w s t) : 0 ≤ t ∧ t < w.length := by
  induction h with
  | refl => exact ⟨h0, h1⟩
  | step h hm ih => exact ((nodeAt_ok ok ih.1 ih.2).2.2 _ hm).2.2
theorem Reach.closed {w : Web} {s : Int} {F : List Int} (h : s ∈ F) (hc : ∀ t ∈ F, ∀ m ∈ nodeAt w t, m.2 ∈ F) {t : Int} (r : Reach w s t) : t ∈ F := by
  induction r with
  | refl => exact h
  | step _ hm ih => exact hc _ ih _ hm
/-- what is found so far -/
structure FoundOk (w : Web) (s : Int) (F : List Int) : Prop where
  nd : F.Nodup
  st : s ∈ F
  re : ∀ t ∈ F, Reach w s t
theorem FoundOk.len {w : Web} {s : Int} {F : List Int} (f : FoundOk w s F) (ok : OkWeb w) (h0 : 0 ≤ s) (h1 : s < w.length) : F.length ≤ w.length := by
  have hs : F ⊆ (List.range w.length).map fun i : Nat => (i : Int) := fun t ht => by
    obtain ⟨a, b⟩ := (f.re t ht).inside ok h0 h1
    rw [List.mem_map]
    exact ⟨t.toNat, List.mem_range.mpr (by omega), by omega⟩
  have := List.Nodup.length_le_of_subset f.nd hs
  rwa [List.length_map, List.length_range] at this
theorem FoundOk.one {w : Web} {s : Int} : FoundOk w s [s] := ⟨by simp, by simp, fun t ht => by rw [List.mem_singleton] at ht; subst ht; exact .refl⟩
theorem FoundOk.add {w : Web} {s t : Int} {m : Int × Int} {F : List Int} (f : FoundOk w s F) (ht : t ∈ F) (hm : m ∈ nodeAt w t) (hn : m.2 ∉ F) : FoundOk w s (F ++ [m.2]) := by
  refine ⟨?_, List.mem_append_left _ f.st, fun u hu => ?_⟩
  · rw [List.nodup_append]
    refine ⟨f.nd, by simp, fun a ha b hb => ?_⟩
    rw [List.mem_singleton] at hb
    subst hb
    exact fun z => hn (z ▸ ha)
  · rw [List.mem_append, List.mem_singleton] at hu
    rcases hu with hu | rfl
    · exact f.re u hu
    · exact .step (f.re t ht) hm
theorem FoundOk.met {w : Web} {s : Int} {F l : List Int} (f : FoundOk w s F) (hc : ∀ t ∈ F, ∀ m ∈ nodeAt w t, m.2 ∈ F) (hp : l.Perm F) (hs : l.Pairwise (· ≤ ·)) : MetList w s l :=
  ⟨lt_nodup hs (hp.nodup_iff.mpr f.nd), fun t => hp.mem_iff.trans ⟨f.re t, Reach.closed f.st hc⟩⟩
/-- the move of a node, as it lies in the heap -/
theorem Tp.nodeIx {K : PySem.W.Frag} {H : Hp} {v : V} {w : Web} {t : Int} (tw : Tp K H v (webD w)) (h0 : 0 ≤ t) (h1 : t < w.length) :
    ∃ a xs b ys, v = .ref a ∧ SqT K H a xs ∧ atI xs t = some (.ref b) ∧ SqT K H b ys ∧ TpAll K H ys ((nodeAt w t).map moveD) := by
  cases tw with
  | tup hS hs =>
    rename_i a xs
    have hl : xs.length = w.length := by rw [hs.len, List.length_map]
    obtain ⟨y, hat, hy⟩ := pickI (xs := xs) (v := t) h0 (by omega)
    obtain ⟨d, hd, ty⟩ := hs.get hy
    rw [List.getElem?_map, (nodeAt_mem h0 h1).1] at hd
    have e : nodeD (nodeAt w t) = d := Option.some.inj hd
    subst e
    cases ty with
    | tup hT ht => exact ⟨a, xs, _, _, rfl, hS, hat, hT, ht⟩
theorem TpAll.moveIx {K : PySem.W.Frag} {H : Hp} {ys : List V} {nd : List (Int × Int)} {i : Nat} {x : V} (hs : TpAll K H ys (nd.map moveD)) (h : ys[i]? = some x) :
    ∃ m c, nd[i]? = some m ∧ x = .ref c ∧ SqT K H c [.int m.1, .int m.2] := by
  obtain ⟨d, hd, tx⟩ := hs.get h
  rw [List.getElem?_map] at hd
  cases e : nd[i]? with
  | none => rw [e] at hd; cases hd
  | some m =>
    rw [e] at hd
    have e2 : moveD m = d := Option.some.inj hd
    subst e2
    cases tx with
    | tup hT ht =>
      cases ht with
      | cons t0 ht =>
        cases ht with
        | cons t1 ht =>
          cases ht
          cases t0
          cases t1
          exact ⟨m, _, rfl, rfl, hT⟩
theorem dpInts {K : PySem.W.Frag} {H : Hp} : ∀ (ns : List Int), DpAll K H (ns.map V.int) (ns.map PyData.int)
  | [] => .nil
  | n :: ns => .cons (.int n) (dpInts ns)
theorem cliInts : ∀ ns : List Int, PyData.canLayAll0 (ns.map PyData.int) = true
  | [] => rfl
  | n :: ns => by
    show PyData.canLayAll0 (PyData.int n :: ns.map PyData.int) = true
    rw [PyData.canLayAll0, cliInts ns]
    rfl
theorem dptInts : ∀ ns : List Int, PyData.depthAll (ns.map PyData.int) = 0
  | [] => rfl
  | n :: ns => by
    show PyData.depthAll (PyData.int n :: ns.map PyData.int) = 0
    rw [PyData.depthAll, dptInts ns]
    rfl
theorem shInts (ns : List Int) : SeqAt.shaped (.list (ns.map PyData.int)) = true := by
  unfold SeqAt.shaped
  rw [show (PyData.list (ns.map PyData.int)).canLay0 = PyData.canLayAll0 (ns.map PyData.int) by rw [PyData.canLay0], cliInts, show (PyData.list (ns.map PyData.int)).depth = PyData.depthAll (ns.map PyData.int) + 1 by rw [PyData.depth], dptInts]
  rfl
theorem eqvInts (ns : List Int) : PyData.eqv (.list (ns.map PyData.int)) (.list (ns.map PyData.int)) = true := by
  rw [PyData.eqv]
  exact PySem.SeqAt.eqvAll_refl _ (cliInts ns)
/-- found, as a dict -/
def dFound (F : List Int) : List (Key × V) := F.map fun t => (Sum.inl t, V.bl true)
theorem dFound_get (F : List Int) (t : Int) : (valV (dFound F) (Sum.inl t)).isSome = decide (t ∈ F) := by
  induction F with
  | nil => rfl
  | cons a F ih =>
    show (valV ((Sum.inl a, V.bl true) :: dFound F) (Sum.inl t)).isSome = _
    by_cases h : a = t
    · subst h
      rw [valV_pos rfl]
      simp
    · rw [valV_neg (by intro z; exact h (Sum.inl.inj z)), ih]
      have : t ≠ a := fun z => h z.symm
      simp [this]
theorem dFound_put {F : List Int} {t : Int} (h : t ∉ F) : putK (dFound F) (Sum.inl t) (.bl true) = dFound (F ++ [t]) := by
  unfold putK
  have e : ((dFound F).any fun kv => decide (kv.1 = Sum.inl t)) = false := by
    rw [List.any_eq_false]
    intro x hx
    unfold dFound at hx
    obtain ⟨a, ha, rfl⟩ := List.mem_map.mp hx
    simp only [decide_eq_true_eq]
    intro z
    exact h (Sum.inl.inj z ▸ ha)
  rw [if_neg (by rw [e]; exact Bool.false_ne_true)]
  unfold dFound
  rw [List.map_append]
  rfl
theorem dFound_keys (F : List Int) : (dFound F).map (·.1) = F.map Sum.inl := by
  unfold dFound
  rw [List.map_map]
  rfl
def spMet (K : PySem.W.Frag) : Sp := fun vs H Q _ => ∃ (v : V) (w : Web) (s : Int), vs = [v, .int s] ∧ Tp K H v (webD w) ∧ OkWeb w ∧ 0 ≤ s ∧ s < w.length ∧
  ∀ ys p H', MetList w s ys → Same H H' → H p = none → H' p = some (.lst (ys.map V.int)) → Q (.ref p) H'
end Pd
namespace Pd
open PySem PySem.Spec PyProof.Rows L2
/-- a dict changes -/
theorem Le.putD {H : Hp} {p : Addr} {xs ys : List (Key × V)} (e : H p = some (.dK xs)) : Le H (upd H p (.dK ys)) := by
  constructor
  · intro a zs q
    rw [upd_ne (ne_of q e (by intro z; cases z))]; exact q
  · intro a d q
    exact ⟨d, by rw [upd_ne (ne_of q e (by intro z; cases z))]; exact q⟩
  · intro a zs q
    by_cases ha : a = p
    · subst ha; exact ⟨ys, upd_same⟩
    · exact ⟨zs, by rw [upd_ne ha]; exact q⟩
  · intro a o u q
    rw [upd_ne (ne_of q e (by intro z; cases z))]; exact q
end Pd

set_option maxHeartbeats 4000000
namespace Pd
open PySem PySem.Spec PyProof.Rows L2
section
variable {X : Cx}
/-- sorted(d), a dict whose keys are ints, of any number -/
def rSortD : List V → Hp → VK → Prop := fun xs H Q => ∃ (a : Addr) (kvs : List (Key × V)) (ks : List Int), xs = [.ref a] ∧ Rd H a (.dK kvs) ∧ kvs.map (·.1) = ks.map Sum.inl ∧
  ∀ (ys : List Int) (p : Addr), ys.Perm ks → ys.Pairwise (· ≤ ·) → H p = none → Q (.ref p) (upd H p (.lst (ys.map V.int)))
theorem call_sortD (hcalm : X.calm = true) : CallR X (.builtin "sorted") rSortD := by
  intro pins s σ H xs us Q I r q
  obtain ⟨a, kvs, ks, ex, hd, hks, q⟩ := q
  subst ex
  obtain ⟨u, eu, rx⟩ := vals1 r
  subst eu
  cases rx
  obtain ⟨z, lo, vs, rel, dd⟩ := dk_rd I.hok hd
  obtain ⟨ep, hat⟩ := dd.dictAt
  have hkeys : vs.map (·.1) = ks.map Sum.inl := rel.keys.symm.trans hks
  have hl : vs.length = ks.length := by
    have e := congrArg List.length hkeys
    rwa [List.length_map, List.length_map] at e
  have hkl : kvs.length = ks.length := by
    have e := congrArg List.length hks
    rwa [List.length_map, List.length_map] at e
  have h16 : vs.length ≤ sizeLine := by rw [hl, ← hkl]; exact z
  refine Calls.call_function_entry PyProof.Rows.kind_sorted PyProof.Rows.plain_sorted PyProof.Rows.entry_sorted (PyProof.Rows.args_sorted1 _) ?_
  unfold Builtin.«sorted»
  refine wpAny_bind (m := checkCount "sorted" 1 1 _) (wpAny_pure ?_)
  refine wpAny_bind (PySem.W.kdu_collect (A := X.A.in1) (PySem.W.kdl_dict (knd := mixKind X.prog X.w) (kvs := vs) (ep := ep) lo) (I.ok.hd hcalm) hat h16 fun h' tk acc hk hacc => ?_)
  have hal : acc.toList.length = ks.length := by rw [Array.length_toList, hacc.1, hl]
  have hS : IntsAre acc.toList ks := ints_each hal fun j v e => by
    obtain ⟨k, x, e1, e2⟩ := hacc.2 j v (by rw [← Array.getElem?_toList]; exact e)
    have e3 : (vs.map (·.1))[j]? = some k := by rw [List.getElem?_map, e1]; rfl
    rw [hkeys, List.getElem?_map] at e3
    cases e4 : ks[j]? with
    | none => rw [e4] at e3; cases e3
    | some y =>
      rw [e4] at e3
      have e5 : Sum.inl y = k := Option.some.inj e3
      subst e5
      rcases keyIs_shape (show keyIs (Sum.inl y) v = true from e2) with ⟨i, t, ek, ev⟩ | ⟨z, t, ek, ev⟩
      · cases ek
        exact ⟨y, t, rfl, ev⟩
      · cases ek
  have I1 : Inv X pins σ H { s with heap := h', toks := tk } := I.kept hk
  have hz : acc.toList.length ≤ sizeLine := by rw [hal, ← hl]; exact h16
  refine wpAny_bind (wpAny_newList ?_ hz)
  have hoL : (h'.push (seqObj "list" acc.toList.toArray 0)).get? h'.objs.size = some (seqObj "list" acc.toList.toArray 0) := Heap.get?_push_size _ rfl
  show wpAny _ _ _ _ _ { s with heap := h'.push (seqObj "list" acc.toList.toArray 0), toks := tk }
  refine wpAny_bind (wpAny_holding (wpAny_call_entry PyProof.Rows.slot_list_sort ⟨_, hoL, rfl⟩ PyProof.Rows.entry_list_sort
    (SrtO.list_sort_ord (s := { s with heap := h'.push (seqObj "list" acc.toList.toArray 0), toks := tk }) SrtO.swo_int hoL hz (fun h2 => SrtO.ints_sortable hS h2) fun out h1 h2 => ⟨.none, rfl, ?_⟩) (PyProof.Rows.args_list_sort _)))
  obtain ⟨k1, k2, k3⟩ := SrtO.ints_out hS h1 h2
  obtain ⟨e', he'⟩ := PyProof.Rows.sortedHeap_at (vs := acc.toList) (out := out.toArray) hoL
  have hlen : ((out.map SrtO.iv).map V.int).length ≤ sizeLine := by
    rw [List.length_map, k2.length_eq, ← hal]
    exact hz
  refine wpAny_pure ⟨_, rfl, .ref h'.objs.size, upd H h'.objs.size (.lst ((out.map SrtO.iv).map V.int)), I1.laid (t' := tk) (fun b u e => ?_) (Nat.le_refl _)
    (show ObjOk X.prog X.w _ _ _ (.lst ((out.map SrtO.iv).map V.int)) from ⟨hlen, out, e', vals_of_ints k1, he'⟩), rfl, q _ _ k2 k3 (I1.hok.fresh (Nat.le_refl _))⟩
  have hb : b < h'.objs.size := Heap.lt_size e
  rw [PyProof.Rows.sortedHeap_old (Nat.ne_of_lt hb) (by rw [size_push']; exact Nat.lt_succ_of_lt hb)]
  exact Heap.get?_push_of_some _ e
end
end Pd

set_option maxHeartbeats 4000000
namespace Pd
open PySem PySem.Spec PyProof.Rows L2
/-- for i, x in enumerate(l) -/
theorem for_enum {K : PySem.W.Frag} {a : Addr} {xs : List V} {g : TG} {tb : TS} {D : Ends} {σ : L2.St} {H : Hp} (Pv : Nat → L2.St → Hp → Prop) (h0 : Pv 0 σ H) (hl : ∀ i σ H, i ≤ xs.length → Pv i σ H → SqL K H a xs)
    (hs : ∀ i x σ H T, xs[i]? = some x → Pv i σ H → H T = none → g (.ref T) σ (upd H T (.tup [.int (i : Nat), x])) fun σ2 H2 => tb { D with nx := Pv (i + 1), ct := Pv (i + 1), bk := D.nx } σ2 H2) (hd : ∀ σ H, Pv xs.length σ H → D.nx σ H) :
    ∃ W : Nat → Nat → L2.St → Hp → Prop, (∃ m, W 0 m σ H) ∧ ∀ i m σ H, W i m σ H →
      ((Ite K a).stop i H ∧ D.nx σ H) ∨ ((Ite K a).go i H ∧ ∃ N : L2.St → Hp → Prop, (∀ σ' H', N σ' H' → ∃ m', m' < m ∧ W (i + 1) m' σ' H') ∧ ∀ x H', (Ite K a).yld i H x H' → g x σ H' fun σ2 H2 => tb { D with nx := N, ct := N, bk := D.nx } σ2 H2) := by
  refine ⟨fun i m σ H => m = xs.length - i ∧ i ≤ xs.length ∧ Pv i σ H, ⟨xs.length, by simp, Nat.zero_le _, h0⟩, ?_⟩
  rintro i m σ H ⟨rfl, hi, p⟩
  have q := hl i σ H hi p
  by_cases hlt : i < xs.length
  · refine .inr ⟨⟨xs, xs[i], q, by simp [hlt]⟩, Pv (i + 1), fun σ' H' p' => ⟨xs.length - (i + 1), by omega, rfl, hlt, p'⟩, fun x H' y => ?_⟩
    obtain ⟨T, x', e, hT, e2, y⟩ := y
    subst e e2
    exact hs i x' σ _ T (y xs q) p hT
  · have e : i = xs.length := by omega
    subst e
    exact .inl ⟨⟨xs, q, Nat.le_refl _⟩, hd σ H p⟩
/-! ### walks -/
def moveOf (nd : List (Int × Int)) : D → Int × Int
  | .int i => nd[i.toNat]?.getD (0, 0)
  | _ => (0, 0)
def go (w : Web) : List D → Int → Int → Nat → Int × Int × Option Nat
  | [], n, t, _ => (n, t, none)
  | d :: ds, n, t, p => if isInt 0 ((nodeAt w n).length - 1) d = true then go w ds (moveOf (nodeAt w n) d).2 (t + (moveOf (nodeAt w n) d).1) (p + 1) else (n, t, some p)
def placeV : Option Nat → V
  | none => .non
  | some k => .int k
/-- where a right step leads -/
theorem step_ok {w : Web} {n : Int} {d : D} (ok : OkWeb w) (h0 : 0 ≤ n) (h1 : n < w.length) (h : isInt 0 ((nodeAt w n).length - 1) d = true) :
    0 ≤ (moveOf (nodeAt w n) d).2 ∧ (moveOf (nodeAt w n) d).2 < w.length := by
  cases d with
  | int i =>
    have h' : (decide (0 ≤ i) && decide (i ≤ (nodeAt w n).length - 1)) = true := h
    rw [Bool.and_eq_true, decide_eq_true_eq, decide_eq_true_eq] at h'
    have hj : i.toNat < (nodeAt w n).length := by omega
    show 0 ≤ ((nodeAt w n)[i.toNat]?.getD (0, 0)).2 ∧ ((nodeAt w n)[i.toNat]?.getD (0, 0)).2 < w.length
    rw [List.getElem?_eq_getElem hj]
    exact ((nodeAt_ok ok h0 h1).2.2 _ (List.getElem_mem hj)).2.2
  | _ => cases h
theorem go_in {w : Web} (ok : OkWeb w) : ∀ (ds : List D) (n t : Int) (p : Nat), 0 ≤ n → n < w.length → 0 ≤ (go w ds n t p).1 ∧ (go w ds n t p).1 < w.length
  | [], n, t, p, h0, h1 => ⟨h0, h1⟩
  | d :: ds, n, t, p, h0, h1 => by
    unfold go
    by_cases h : isInt 0 ((nodeAt w n).length - 1) d = true
    · rw [if_pos h]
      have hm := step_ok ok h0 h1 h
      exact go_in ok ds _ _ _ hm.1 hm.2
    · rw [if_neg h]
      exact ⟨h0, h1⟩
/-- the step's move in the heap -/
theorem step_at {K : PySem.W.Frag} {H : Hp} {ys : List V} {nd : List (Int × Int)} {i : Int} (ht : TpAll K H ys (nd.map moveD)) (h : isInt 0 (nd.length - 1) (.int i) = true) :
    ∃ c, atI ys i = some (.ref c) ∧ SqT K H c [.int (moveOf nd (.int i)).1, .int (moveOf nd (.int i)).2] := by
  have h' : (decide (0 ≤ i) && decide (i ≤ nd.length - 1)) = true := h
  rw [Bool.and_eq_true, decide_eq_true_eq, decide_eq_true_eq] at h'
  have hl : ys.length = nd.length := by rw [ht.len, List.length_map]
  obtain ⟨x, hat, hx⟩ := pickI (xs := ys) (v := i) h'.1 (by omega)
  obtain ⟨m, c, hm, rfl, hc⟩ := ht.moveIx hx
  have e : moveOf nd (.int i) = m := by
    show nd[i.toNat]?.getD (0, 0) = m
    rw [hm]
    rfl
  exact ⟨c, hat, by rw [e]; exact hc⟩
theorem isInt_of {lo hi : Int} {d : D} (h : isInt lo hi d = true) : ∃ i, d = .int i := by
  cases d with
  | int i => exact ⟨i, rfl⟩
  | _ => cases h
theorem go_step {w : Web} {ds : List D} {i : Nat} {d : D} {n t : Int} (h : ds[i]? = some d) : go w (ds.drop i) n t i = if isInt 0 ((nodeAt w n).length - 1) d = true then go w (ds.drop (i + 1)) (moveOf (nodeAt w n) d).2 (t + (moveOf (nodeAt w n) d).1) (i + 1) else (n, t, some i) := by
  have hi : i < ds.length := (List.getElem?_eq_some_iff.mp h).1
  rw [List.drop_eq_getElem_cons hi, show ds[i] = d from (List.getElem?_eq_some_iff.mp h).2]
  rfl
def spNeed (K : PySem.W.Frag) : Sp := fun vs H Q _ => ∃ (v : V) (w : Web), vs = [v] ∧ Tp K H v (webD w) ∧ OkWeb w ∧ ∀ H', Same H H' → Q .non H'
def spNodes (K : PySem.W.Frag) : Sp := fun vs H Q _ => ∃ (v : V) (w : Web), vs = [v] ∧ Tp K H v (webD w) ∧ OkWeb w ∧
  ∀ ys p H', MetList w 0 ys → Same H H' → H p = none → H' p = some (.lst (ys.map V.int)) → Q (.ref p) H'
def spWalked (K : PySem.W.Frag) : Sp := fun vs H Q _ => ∃ (v : V) (a : Addr) (w : Web) (xs : List V) (ds : List D), vs = [v, .ref a] ∧ Tp K H v (webD w) ∧ OkWeb w ∧ SqL K H a xs ∧ TpAll K H xs ds ∧
  ∀ p H', Same H H' → H p = none → H' p = some (.tup [.int (go w ds 0 0 0).1, .int (go w ds 0 0 0).2.1, placeV (go w ds 0 0 0).2.2]) → Q (.ref p) H'
def spSum (K : PySem.W.Frag) : Sp := fun vs H Q _ => ∃ (v : V) (a : Addr) (w : Web) (xs : List V) (ds : List D), vs = [v, .ref a] ∧ Tp K H v (webD w) ∧ OkWeb w ∧ SqL K H a xs ∧ TpAll K H xs ds ∧
  ((go w ds 0 0 0).2.2 = none → ∀ p H', Same H H' → H p = none → H' p = some (.tup [.int (go w ds 0 0 0).1, .int (go w ds 0 0 0).2.1]) → Q (.ref p) H') ∧ ((go w ds 0 0 0).2.2 ≠ none → ∀ H', Same H H' → Q .non H')
/-- a right walk of at most most moves from start on, and where it leads -/
def goodWalk (w : Web) : Int → List Int → Int → Prop
  | s, [], e => s = e
  | s, i :: is, e => isInt 0 ((nodeAt w s).length - 1) (.int i) = true ∧ goodWalk w (moveOf (nodeAt w s) (.int i)).2 is e
theorem goodWalk.snoc {w : Web} : ∀ {is : List Int} {s e i : Int}, goodWalk w s is e → isInt 0 ((nodeAt w e).length - 1) (.int i) = true → goodWalk w s (is ++ [i]) (moveOf (nodeAt w e) (.int i)).2
  | [], s, e, i, h, hi => by
    have : s = e := h
    subst this
    exact ⟨hi, rfl⟩
  | j :: js, s, e, i, h, hi => ⟨h.1, goodWalk.snoc h.2 hi⟩
theorem goodWalk.go {w : Web} : ∀ {is : List Int} {s e : Int} {t : Int} {p : Nat}, goodWalk w s is e → ∃ t', go w (is.map D.int) s t p = (e, t', none)
  | [], s, e, t, p, h => by
    have : s = e := h
    subst this
    exact ⟨t, rfl⟩
  | j :: js, s, e, t, p, h => by
    obtain ⟨t', e'⟩ := goodWalk.go (t := t + (moveOf (nodeAt w s) (.int j)).1) (p := p + 1) h.2
    refine ⟨t', ?_⟩
    rw [List.map_cons]
    unfold Pd.go
    rw [if_pos h.1]
    exact e'
def spWalk (K : PySem.W.Frag) : Sp := fun vs H Q _ => ∃ (h : Addr) (v : V) (w : Web) (most : Int), vs = [.ref h, v, .int 0, .int most] ∧ HandOk H h ∧ Tp K H v (webD w) ∧ OkWeb w ∧ 0 ≤ most ∧ most ≤ 1000 ∧
  ∀ (is : List Int) (e : Int) (l p : Addr) (H' : Hp), Go h H H' → H l = none → H p = none → l ≠ p → H' l = some (.lst (is.map V.int)) → H' p = some (.tup [.ref l, .int e]) → (is.length : Int) ≤ most → goodWalk w 0 is e → Q (.ref p) H'
end Pd

set_option maxHeartbeats 4000000
namespace Pd
open PySem PySem.Spec PyProof.Rows L2
theorem cut_take {xs : List V} {v : Int} (h : 0 ≤ v) : cutV xs none (some v) = xs.take v.toNat := by
  have e : v = ((v.toNat : Nat) : Int) := by omega
  unfold cutV
  rw [show HT.sIx xs.length 0 none = 0 from rfl, show HT.sIx xs.length xs.length (some v) = min v.toNat xs.length by rw [e]; exact HT.sIx_nat _ _ _, List.drop_zero, Nat.sub_zero]
  by_cases hl : v.toNat ≤ xs.length
  · rw [Nat.min_eq_left hl]
  · rw [Nat.min_eq_right (by omega), List.take_length, List.take_of_length_le (by omega)]
theorem cut_drop {xs : List V} {v : Int} (h : 0 ≤ v) : cutV xs (some v) none = xs.drop v.toNat := by
  have e : v = ((v.toNat : Nat) : Int) := by omega
  unfold cutV
  rw [show HT.sIx xs.length xs.length none = xs.length from rfl, show HT.sIx xs.length 0 (some v) = min v.toNat xs.length by rw [e]; exact HT.sIx_nat _ _ _]
  by_cases hl : v.toNat ≤ xs.length
  · rw [Nat.min_eq_left hl, List.take_of_length_le (by rw [List.length_drop]; omega)]
  · rw [Nat.min_eq_right (by omega), List.drop_length, List.drop_eq_nil_of_le (by omega), List.take_nil]
theorem goodWalk.cut {w : Web} : ∀ {is : List Int} {s e : Int} (k : Nat), goodWalk w s is e → ∃ e1, goodWalk w s (is.take k) e1
  | [], s, e, k, _ => ⟨s, by rw [List.take_nil]; rfl⟩
  | i :: is, s, e, 0, _ => ⟨s, rfl⟩
  | i :: is, s, e, k + 1, h => by
    obtain ⟨e1, h1⟩ := goodWalk.cut k h.2
    exact ⟨e1, h.1, h1⟩
theorem goodWalk.app {w : Web} : ∀ {is : List Int} {s e : Int} {t : Int} {p : Nat} (rest : List D), goodWalk w s is e → ∃ t', Pd.go w (is.map D.int ++ rest) s t p = Pd.go w rest e t' (p + is.length)
  | [], s, e, t, p, rest, h => by
    have : s = e := h
    subst this
    exact ⟨t, rfl⟩
  | j :: js, s, e, t, p, rest, h => by
    obtain ⟨t', e'⟩ := goodWalk.app (t := t + (moveOf (nodeAt w s) (.int j)).1) (p := p + 1) rest h.2
    refine ⟨t', ?_⟩
    rw [List.map_cons, List.cons_append]
    show (if isInt 0 ((nodeAt w s).length - 1) (.int j) = true then _ else _) = _
    rw [if_pos h.1, e', List.length_cons]
    congr 1
    omega
theorem go_bad {w : Web} {is : List Int} {e : Int} {d : D} {rest : List D} (h : goodWalk w 0 is e) (hd : isInt 0 ((nodeAt w e).length - 1) d = false) : (go w (is.map D.int ++ d :: rest) 0 0 0).2.2 = some is.length := by
  obtain ⟨t', e'⟩ := goodWalk.app (t := 0) (p := 0) (d :: rest) h
  rw [e', Nat.zero_add]
  show (if isInt 0 ((nodeAt w e).length - 1) d = true then _ else _ : Int × Int × Option Nat).2.2 = _
  rw [hd, if_neg Bool.false_ne_true]
theorem tpInts {K : PySem.W.Frag} {H : Hp} : ∀ (ns : List Int), TpAll K H (ns.map V.int) (ns.map D.int)
  | [] => .nil
  | n :: ns => .cons (.int n) (tpInts ns)
def spSpoilt (K : PySem.W.Frag) : Sp := fun vs H Q _ => ∃ (h : Addr) (v : V) (w : Web) (l : Addr) (is : List Int) (e : Int), vs = [.ref h, v, .ref l] ∧ HandOk H h ∧ Tp K H v (webD w) ∧ OkWeb w ∧ l ≠ h ∧ H l = some (.lst (is.map V.int)) ∧ is.length ≤ 1000 ∧ goodWalk w 0 is e ∧
  ∀ (p b : Addr) (j : Nat) (xs : List V) (ds : List D) (H' : Hp), Go h H H' → H' p = some (.tup [.ref b, .int j]) → H' b = some (.lst xs) → TpAll K H' xs ds → (go w ds 0 0 0).2.2 = some j → xs.length ≤ 2001 → j ≤ 1000 → Q (.ref p) H'
end Pd

set_option maxHeartbeats 4000000
/-! An own error whose __init__ says super().__init__(text) and self.place = place. -/
namespace PySem
namespace PlX
open PySem.W PySem.Calls PyProof.Rows PySem.HandSPX
def iA (p1 p2 : Pos) : Arguments := { posonlyargs := [], args := [{ arg := "self", annotation := none, pos := p1 }, { arg := "place", annotation := none, pos := p2 }], vararg := none, kwonlyargs := [], kw_defaults := [], kwarg := none, defaults := [] }
def iB (txt : Str) (j : Nat) (q1 q2 q3 q4 q5 q6 q7 q8 q9 q10 : Pos) : List Stmt := [.Expr (.Call (.Attribute (.Call (.Name "super" q1) [] [] q2) "__init__" q3) [.Constant (.str txt) j q4] [] q5) q6, .Assign [.Attribute (.Name "self" q7) "place" q8] (.Name "place" q9) q10]
def iS : Scope := { kind := .function, names := [(PySem.Str.ofString "self", .local), (PySem.Str.ofString "place", .local), (PySem.Str.ofString "__class__", .free), (PySem.Str.ofString "super", .globalImplicit)], isGenerator := false, isCoroutine := false, more := [] }
/-- how super().__init__(text) is evaluated (at written places: rfl) -/
def EvOk (qI txt : Str) (j : Nat) (q1 q2 q3 q4 q5 : Pos) : Prop := ∀ (L fa : Addr) (cd : Value) (cc : Addr), ∃ pl : Sem Bool,
  eval (.Call (.Attribute (.Call (.Name "super" q1) [] [] q2) "__init__" q3) [.Constant (.str txt) j q4] [] q5) (ksEnv qI iS L fa cd cc) = (do
      let ov ← attributeBase (.Call (.Name "super" q1) [] [] q2) "__init__" (ksEnv qI iS L fa cd cc) (eval (.Call (.Name "super" q1) [] [] q2) (ksEnv qI iS L fa cd cc))
      standAt q3.atName
      let (f, first) ← holding [ov] (getMethod ov "__init__" pl)
      callWith q5 f first (backTo q5 (starEach [.Constant (.str txt) j q4] (ksEnv qI iS L fa cd cc))) [])
/-- what the written part says of the class at C and of its __init__ at fI -/
structure Txt (prog : Program) (K : Frag) (mg : Str → Option Value) (nmC qI : Str) (C fI : Addr) : Prop where
  gC : mg nmC = some (.ref C)
  cls : ∃ nm q N bs bm sn sub ab col dd k0 k1 k2 k3 k5, K.lookup C = some (excClassObj nm q C N bs bm true sn sub ab col dd k0 k1 k2 k3 k5 "ValueError.__new__") ∧ refsVE bm = true
  sa : findIn K (.ref C) "__setattr__" = some (some (.builtin "object.__setattr__"))
  ga : findIn K (.ref C) "__getattribute__" = some (some (.builtin "BaseException.__getattribute__"))
  gg : findIn K (.ref C) "__getattr__" = some none
  noN : findIn K (.ref C) "place" = some none
  iC : findIn K (.ref C) "__init__" = some (some (.ref fI))
  tC : typeIn K (.ref fI) = some (.type "function")
  kC : keepIn K (.ref C) = true
  exC : subIn K (.ref C) (.type "BaseException") = some true
  veC : subIn K (.ref C) (.type "ValueError") = some true
  tyC : typeIn K (.ref C) = some (.type "type")
  hdC : hasDictIn K C = true
  su : ks_superIn K C C "__init__" = some (some (.builtin "ValueError.__init__"))
  mr : mroIn K C (.ref C) = some true
  op : nsIn K cStatics "thirdparty.any" = some none
  ms : mg "super" = none
  top : (prog.main.scope.names.lookup ("super" : Str)).isSome = false
  fn : ∃ (oc : Value) (od : Option Addr) (kV doc pm : Value) (an : Option Addr) (cda : Addr) (ct : Value) (cc : Addr) (osl : Array (Option Value)) (txt : Str) (j : Nat) (p1 p2 q1 q2 q3 q4 q5 q6 q7 q8 q9 q10 : Pos) (ccl : Value) (cdd : Option Addr) (vs : Array Value) (ccs : Array (Option Value)) (file : Str) (tf : Tok) (cl : Value) (cld : Option Addr) (csl : Array (Option Value)),
    K.lookup fI = some ⟨oc, od, .func (ksFn "__init__" qI (iA p1 p2) (iB txt j q1 q2 q3 q4 q5 q6 q7 q8 q9 q10) iS .none kV doc pm an (.ref cda) ct cc), osl⟩ ∧ codeIn K (.ref cda) qI = true ∧
    K.lookup cda = some ⟨ccl, cdd, .fields vs, ccs⟩ ∧ vs[2]? = some (.str file tf) ∧ ((prog.main.file : Str) == file) = true ∧ K.lookup cc = some ⟨cl, cld, .cell (some (.ref C)), csl⟩ ∧ EvOk qI txt j q1 q2 q3 q4 q5
structure InitEnd (h h' : Heap) (x C dx t1 : Addr) (v : Value) : Prop where
  keep : ∀ b o, b ≠ x → h.get? b = some o → h'.get? b = some o
  obj : h'.get? x = some { cls := .ref C, dict := some dx, data := .fields #[.ref t1, .none, .none, .none, .bool false, .none] }
  dbig : h.objs.size ≤ dx
  dne : dx ≠ x
  ns : h'.Ns1 dx (fun y => if y = "place" then some v else none)
structure Made (h h' : Heap) (e C d : Addr) (v : Value) : Prop where
  keep : ∀ b o, h.get? b = some o → h'.get? b = some o
  new : h.objs.size ≤ e
  obj : ∃ oe vs, h'.get? e = some oe ∧ oe.cls = .ref C ∧ oe.dict = some d ∧ oe.data = .fields vs ∧ vs[1]? = some .none
  dbig : h.objs.size ≤ d
  dne : d ≠ e
  ns : h'.Ns1 d (fun y => if y = "place" then some v else none)
section
variable {prog : Program} {w : World} {A : Around} {E : Value → Shared → Prop} {h : Heap} {g : Array GenState} {d : Drawn} {t : Nat} {os : OsState}
variable {nm q : Str} {C N : Addr} {bs bm : List Value} {hdct : Bool} {sn : List Str} {sub : List Value} {ab : Bool} {col : Option Bool} {dd : Option Addr} {k0 k1 k2 k3 k5 : Option Value}
theorem call_mw {u e t0 : Addr} {rest : List Value} {Q : Value → Shared → Prop}
    (hC : h.get? C = some (excClassObj nm q C N bs bm hdct sn sub ab col dd k0 k1 k2 k3 k5 "ValueError.__new__")) (he : h.get? e = some (excO C t0)) (hu : h.get? u = some (kxs_mw "ValueError.__init__" e)) (hrest : rest.length ≤ sizeLine)
    (hq : ∀ h' t1, (∀ b o, b ≠ e → h.get? b = some o → h'.get? b = some o) → h.objs.size ≤ h'.objs.size → h'.get? e = some (excO C t1) → Q .none ⟨h', g, d, t, os⟩) :
    wpAny (model prog w) A (call (.ref u) rest) Q E ⟨h, g, d, t, os⟩ := by
  refine wpAny_call (codeAny_of_tree ?_)
  show wpAny _ A.in1 (callAny (.ref u) ⟨rest, []⟩) _ _ _
  simp only [callAny]
  refine wpAny_bind (wpAny_load hu ?_)
  simp only [kxs_mw, show (Value.type "method-wrapper" == Value.type "method" || Value.type "method-wrapper" == Value.type "builtin_function_or_method" || Value.type "method-wrapper" == Value.type "method-wrapper") = true by decide, if_true]
  refine W.KFB.if_so (by decide) ?_
  refine wpAny_bind (ESX.check_bound F.excBase_ValueError hC he rfl ?_)
  refine wpAny_bind (wpAny_pure (wpAny_pure ?_))
  refine ⟨Code.quiet_builtin _ (by decide +kernel), codeAny_builtin F.excBase_ValueError.initEntry ?_⟩
  rw [Around.under_plainId F.excBase_ValueError.init.plain _]
  wp_walk
  refine hq _ h.objs.size (fun b o hb ho => ?_) ?_ ?_
  · rw [Heap.get?_update_other _ _ (Ne.symm hb)]
    exact Heap.get?_push_of_some _ ho
  · simp
  · rw [Heap.get?_update_self _ (Heap.get?_push_of_some _ he) rfl]
    rfl
end
section
variable {prog : Program} {w : World} {A : Around} {E : Value → Shared → Prop} {R : Result → Shared → Prop} {s : Shared} {K : Frag} {mg : Str → Option Value} {nmC qI : Str} {C fI : Addr}
theorem kept_but {K : Frag} {h h' : Heap} {x : Addr} (X : K.In h) (hx : K.lookup x = none) (k : ∀ b o, b ≠ x → h.get? b = some o → h'.get? b = some o) : K.In h' := fun a o e =>
  k a o (fun z => by rw [z, hx] at e; cases e) (X a o e)
theorem callWith_mw {M : Model} {pos : Pos} {u x : Addr} {env : Env} {e : Expr} {rest : List Expr} {Q : Value → Shared → Prop}
    (h : wpAny M A (spliced (backTo pos (starEach (e :: rest) env))) (fun vs s₁ => KxsAt "ValueError.__init__" u x s₁.heap ∧ wpAny M A (call (.ref u) vs) Q E s₁) E s)
    (he : starEach (e :: rest) env = (false, eval e env) :: starEach rest env := by rfl) (hplain : (backTo pos (starEach rest env)).any (·.1) = false := by rfl) :
    wpAny M A (callWith pos (.ref u) [] (backTo pos (starEach (e :: rest) env)) []) Q E s := by
  rw [he] at h ⊢
  refine kxs_callWith (i := "ValueError.__init__") (x := x) (by show (false || (backTo pos (starEach rest env)).any (·.1)) = false; rw [hplain]; rfl) ?_
  exact evalArgs_plain h
theorem pl_init (T : Txt prog K mg nmC qI C fI) {x t0 : Addr} {v : Value} (X : K.In s.heap) (hg : s.heap.Ns mainGlobals mg) (hb : ∃ mb, s.heap.Ns builtinsNs mb ∧ ∀ x : Str, x ≠ "__name__" → mb x = bootBuiltins x) (hlim : s.heap.NoLimit)
    (hx : s.heap.get? x = some (excO C t0)) (hnx : K.lookup x = none) (hroom : A.depth < recursionLimit)
    (hq : ∀ h' tk dx t1, InitEnd s.heap h' x C dx t1 v → R (.ok (.ret .none)) { s with heap := h', toks := tk }) :
    codeAny (model prog w) A (.call (.ref fI) ⟨[.ref x, v], []⟩) R s := by
  obtain ⟨oc, od, kV, doc, pm, an, cda, ct, cc, osl, txt, j, p1, p2, q1, q2, q3, q4, q5, q6, q7, q8, q9, q10, ccl, cdd, vs, ccs, file, tf, cl, cld, csl, ho, hcd, hcode, hvs, hfile, hcell, hev⟩ := T.fn
  obtain ⟨nm, q, N, bs, bm, sn, sub, ab, col, dd, k0, k1, k2, k3, k5, hC, hbm⟩ := T.cls
  have hcl : clsIn K C = some { name := nm, bases := bs, mro := .ref C :: bm, ns := N, qualname := q, hasDict := true, slotNames := sn, subclasses := sub, abstract := ab, collection := col, hasDel := false } := by unfold clsIn; rw [hC] <;> rfl
  obtain ⟨mb, hb1, hb2⟩ := hb
  refine ks_codeAny_call_defAt (fd := ksFn "__init__" qI (iA p1 p2) (iB txt j q1 q2 q3 q4 q5 q6 q7 q8 q9 q10) iS .none kV doc pm an (.ref cda) ct cc) (body := iB txt j q1 q2 q3 q4 q5 q6 q7 q8 q9 q10) (binds := [("self", .ref x), ("place", v)])
    hroom (X _ _ ho) rfl hlim (codeRec_of X hcd) rfl (BindsTo.of_eq (by first | rfl | with_unfolding_all rfl)) (by show ∀ x ∈ iS.names, x.2 ≠ .cell; decide) ?_ (fun h₁ hns k₁ => ?_)
  · intro y hy
    rcases List.mem_cons.mp hy with rfl | hy
    · rfl
    · rcases List.mem_cons.mp hy with rfl | hy
      · rfl
      · cases hy
  have X₁ : K.In h₁ := X.keeps k₁
  have hx₁ := k₁ _ _ hx
  have hC₁ := X₁ _ _ hC
  have hxC : x ≠ C := fun z => by rw [z, hC] at hnx; cases hnx
  obtain ⟨hp, gg, dr, tk, os⟩ := s
  have lt1 : hp.objs.size < h₁.objs.size := hns.lt
  obtain ⟨pl, hpl⟩ := hev hp.objs.size fI (.ref cda) cc
  refine ks_wpAt_execs_cons (ks_wpAt_Expr_any (ks_wpAt_MethodCall (pl := pl) ?_ hpl))
  refine ks_wpAt_super_base (env := ksEnv qI iS hp.objs.size fI (.ref cda) cc) rfl rfl (by decide) rfl (X₁ _ _ ho) rfl rfl rfl (X₁ _ _ hcode) rfl hvs hfile T.top ?_
  refine ks_loadName_global rfl rfl (loadGlobal_builtin (env := ksEnv qI iS hp.objs.size fI (.ref cda) cc) (hg.keeps k₁) T.ms (hb1.keeps k₁) ((hb2 _ (by decide)).trans (by decide +kernel)) ⟨rfl, ?_⟩)
  refine wpAny_loadName_free rfl rfl rfl ⟨_, X₁ _ _ hcell, rfl⟩ ?_
  refine wpAny_loadName_local rfl rfl hns (show _ = some (Value.ref x) by first | rfl | with_unfolding_all rfl | kernel_rfl) ?_
  refine ks_wpAny_isType_cls hC₁ rfl ⟨rfl, ?_⟩
  refine ks_wpAny_call_super hC₁ rfl hx₁ rfl (fun c z => by cases z) (looks_mroIn X₁ T.mr) (fun h₂ e₂ k₂ => ?_)
  have X₂ : K.In h₂ := X₁.keeps k₂
  have hI : Looks (model prog w) h₂ (isInstance (.ref x) (.type "ValueError")) true := (InstAt.type (od := none) ⟨k₂ _ _ hx₁, rfl, rfl, trivial⟩).andThen (looks_subIn X₂ T.veC)
  have hsu := T.su
  unfold ks_superIn at hsu
  rw [hcl] at hsu
  refine kxs_getMethod kxs_ValueError e₂ (looks_opaque X₂ T.op) (l₀ := .ref C :: bm) (fun A Q E s k q => wpAny_bind ((looks_clsIn X₂ hcl) A _ E s k (wpAny_pure q))) rfl X₂ hsu hI hxC (by decide) ?_
  refine callWith_mw (x := x) ?_
  refine Calls.spliced_cons (Calls.Constant_str (k := j) (pos := q4) (Calls.spliced_nil ?_))
  have hu : (h₂.push (kxs_mw "ValueError.__init__" x)).get? h₂.objs.size = some (kxs_mw "ValueError.__init__" x) := Heap.get?_push_at rfl rfl
  refine ⟨hu, ?_⟩
  refine call_mw (Heap.get?_push_of_some _ (k₂ _ _ hC₁)) (Heap.get?_push_of_some _ (k₂ _ _ hx₁)) hu (by rw [sizeLine_eq]; exact (by decide : 1 ≤ 16777216)) (fun h₃ t1 k₃ lt3 hx₃ => ?_)
  have kk : ∀ b o, b ≠ x → h₁.get? b = some o → h₃.get? b = some o := fun b o hb e => k₃ b o hb (Heap.get?_push_of_some _ (k₂ b o e))
  have X₃ : K.In h₃ := kept_but X₁ hnx kk
  have hns₃ : h₃.Ns hp.objs.size (fun y => ([("self", Value.ref x), ("place", v)] : List (Str × Value)).reverse.lookup y) := by
    obtain ⟨o, es, ep, e1, r⟩ := hns
    exact ⟨o, es, ep, kk _ _ (Nat.ne_of_gt (Heap.lt_size hx)) e1, r⟩
  refine wpAt_of_wpAny ?_
  refine wpAny_execs_cons (plainObj_wpAny_Assign_Attribute ?_)
  refine wpAny_Name (wpAny_loadName_local rfl rfl hns₃ (show _ = some v by first | rfl | with_unfolding_all rfl | kernel_rfl) ?_)
  refine wpAny_Name (wpAny_loadName_local rfl rfl hns₃ (show _ = some (Value.ref x) by first | rfl | with_unfolding_all rfl | kernel_rfl) ?_)
  refine set_plain X₃ (ox := excO C t1) (od := none) ⟨hx₃, rfl, rfl, trivial⟩ T.sa ?_
  refine exc_osa X₃ hx₃ hcl (show refsVE (.ref C :: bm) = true from hbm) rfl T.noN (fun h₄ tk₄ dx k₄ dn dne hx₄ hn₄ => ?_)
  have sz3 : h₁.objs.size ≤ h₃.objs.size := by
    have a1 : h₂.objs.size ≤ (h₂.push (kxs_mw "ValueError.__init__" x)).objs.size := by rw [Heap.size_push]; exact Nat.le_succ _
    have a2 : h₁.objs.size ≤ h₂.objs.size := Nat.le_of_lt (Heap.lt_size e₂)
    exact Nat.le_trans a2 (Nat.le_trans a1 lt3)
  exact wpAny_execs_nil (hq h₄ tk₄ dx t1 ⟨fun b o hb e => k₄ b o hb (kk b o hb (k₁ b o e)), hx₄, Nat.le_trans (Nat.le_of_lt (Nat.lt_of_lt_of_le lt1 sz3)) dn, dne, hn₄⟩)
end
end PlX
end PySem

set_option maxHeartbeats 4000000
namespace PySem
namespace PlX
open PySem.W PySem.Calls PyProof.Rows PySem.HandSPX
section
variable {prog : Program} {w : World} {A : Around} {E : Value → Shared → Prop} {R : Result → Shared → Prop} {s : Shared} {K : Frag} {mg : Str → Option Value} {nmC qI : Str} {C fI : Addr}
theorem pl_made (T : Txt prog K mg nmC qI C fI) {v : Value} (X : K.In s.heap) (hg : s.heap.Ns mainGlobals mg) (hb : ∃ mb, s.heap.Ns builtinsNs mb ∧ ∀ x : Str, x ≠ "__name__" → mb x = bootBuiltins x) (hlim : s.heap.NoLimit) (hroom : A.depth + 1 < recursionLimit)
    (hq : ∀ h' tk e d, Made s.heap h' e C d v → R (.ok (.ret (.ref e))) { s with heap := h', toks := tk }) :
    codeAny (model prog w) A (.call (.ref C) ⟨[v], []⟩) R s := by
  obtain ⟨nm, q, N, bs, bm, sn, sub, ab, col, dd, k0, k1, k2, k3, k5, hC, hbm⟩ := T.cls
  obtain ⟨mb, hb1, hb2⟩ := hb
  obtain ⟨hp, g, dr, tk, os⟩ := s
  have k : ∀ b o, hp.get? b = some o → ((hp.push (kdv_tup [v])).push (excO C hp.objs.size)).get? b = some o := fun b o e => Heap.get?_push_of_some _ (Heap.get?_push_of_some _ e)
  have hget : ((hp.push (kdv_tup [v])).push (excO C hp.objs.size)).get? (hp.objs.size + 1) = some (excO C hp.objs.size) := by heap_get
  have hnx : K.lookup (hp.objs.size + 1) = none := by
    cases e : K.lookup (hp.objs.size + 1) with
    | none => rfl
    | some o => exact absurd (Nat.lt_of_succ_lt (Heap.lt_size (X _ _ e))) (Nat.lt_irrefl _)
  have h1 : [v].length ≤ sizeLine := by rw [sizeLine_eq]; exact (by decide : 1 ≤ 16777216)
  refine call_own F.excBase_ValueError (fun Y => refsVE_contains Y bm hbm) (X _ _ hC) (looks_findIn X T.iC) (fun self => bind_fn X self T.tC) h1 ?_
  refine pl_init (s := ⟨(hp.push (kdv_tup [v])).push (excO C hp.objs.size), g, dr, tk, os⟩) T (X.keeps k) (hg.keeps k) ⟨mb, hb1.keeps k, hb2⟩ (hlim.keeps k) hget hnx ?_ fun h' tk' dx t1 ⟨k', hx, dn, dne, hns⟩ => ?_
  · show A.depth + 1 < recursionLimit
    exact hroom
  · have old : ∀ b o, hp.get? b = some o → h'.get? b = some o := fun b o e => k' b o (Nat.ne_of_lt (Nat.lt_succ_of_lt (Heap.lt_size e))) (k b o e)
    have z : hp.objs.size + 1 + 1 ≤ dx := by
      have q := dn
      first
        | (simpa only [Heap.size_push] using q)
        | exact q
        | (rw [Heap.size_push, Heap.size_push] at q; exact q)
    exact ⟨rfl, hq h' tk' (hp.objs.size + 1) dx ⟨old, Nat.le_succ _, ⟨_, _, hx, rfl, rfl, rfl, rfl⟩, (show hp.objs.size ≤ dx by omega), dne, hns⟩⟩
end
end PlX
end PySem
namespace Pd
open PySem PySem.Spec PyProof.Rows L2
theorem relO_pl {v : V} {v' : Value} (r : RelV v v') (f : Str) : RelO (List.lookup f [(("place" : Str), v)]) (if f = "place" then some v' else none) := by
  by_cases hw : f = "place"
  · subst hw
    have q : List.lookup ("place" : Str) [(("place" : Str), v)] = some v := by simp [List.lookup]
    rw [if_pos rfl, q]
    exact r
  · have qw : (f == ("place" : Str)) = false := by simpa using hw
    have q2 : List.lookup f [(("place" : Str), v)] = none := by simp [List.lookup, qw]
    rw [if_neg hw, q2]
    trivial
section
variable {X : Cx} {C fI : Addr} {nmC qI : Str}
/-- BadX(e) -/
def tMkPl (C : Addr) (ta : TA) : L2.St → Hp → XK → Prop := fun σ H Q => ta σ H fun vs H1 => ∃ v, vs = [v] ∧ ∀ d, H1 d = none → Q (.ref C) (some d) (upd H1 d (.xd [(("place" : Str), v)]))
theorem pmk_pl {a : Expr} {ta : TA} {p pos : Pos} {k : Nat} (T : PySem.PlX.Txt X.prog X.K X.mg nmC qI C fI) (hr : Room k X.A) (ha : PA X [a] ta) (hg : Gl X nmC := by rfl) (hdb : (nmC == ("__debug__" : Str)) = false := by decide)
    (he : starEach (a :: []) X.env = (false, eval a X.env) :: starEach [] X.env := by rfl) (hpl : (backTo pos (starEach [] X.env)).any (·.1) = false := by rfl) :
    PMk X (.Call (.Name nmC p) [a] [] pos) (tMkPl C ta) := by
  intro pins s σ H Q I h
  refine wpAny_Call_Name_kw (ld_glob I hg T.gC ?_ hdb)
  refine PySem.W.callWith_K (h₀ := X.base) I.ok.mod.kin T.kC (thn (ha.run pos pins s σ H _ I h) fun us s1 hh => ?_) he hpl
  obtain ⟨vs, H1, I1, r1, v, ev, q1⟩ := hh
  subst ev
  refine ⟨I1.kIn, ?_⟩
  cases r1 with
  | cons rv rn =>
    rename_i v' us'
    cases rn
    show wpAny _ _ (call (.ref C) [v']) _ _ _
    have hlim := I1.nolimit
    have hgl := I1.mod.glob.keeps I1.bk
    obtain ⟨mb, hb1, hb2⟩ := I1.mod.blt
    have hbl := hb1.keeps I1.bk
    obtain ⟨hp, g, dr, tk, os⟩ := s1
    refine wpAny_call (PySem.PlX.pl_made T I1.kIn hgl ⟨mb, hbl, hb2⟩ hlim (by have := hr.dp; omega) fun h' tk' e d M => ?_)
    show MkP X pins σ Q (.ref e) ⟨h', g, dr, tk', os⟩
    obtain ⟨oe, fv, hoe, hc, hd, hdat, h1⟩ := M.obj
    have hns := M.ns
    obtain ⟨G', g1, g2⟩ := restrict h' fun b => decide (b ≠ e)
    have gk : ∀ b, b ≠ e → G'.get? b = h'.get? b := fun b hb => g1 b (decide_eq_true hb)
    have ge : G'.get? e = none := g2 e (by simp)
    have old : ∀ b o, hp.get? b = some o → G'.get? b = some o := fun b o q => (gk b (Nat.ne_of_lt (Nat.lt_of_lt_of_le (Heap.lt_size q) M.new))).trans (M.keep b o q)
    have ob : ObjOk X.prog X.w (upd H1 d (.xd [(("place" : Str), v)])) G' d (.xd [(("place" : Str), v)]) :=
      ⟨_, hns.at (fun o q => (gk d M.dne).trans q), fun f => relO_pl rv f⟩
    have J : Inv X pins σ (upd H1 d (.xd [(("place" : Str), v)])) ⟨G', g, dr, tk', os⟩ := I1.laid (t' := tk') old M.dbig ob
    refine ⟨e, oe, fv, ⟨G', g, dr, tk', os⟩, _, .ref C, some d, rfl, J, fun b o q => ?_, ge, hoe, ⟨hc, hd⟩, hdat, h1, ?_, rfl, I1.bare, raises_own T.exC T.tyC, q1 d (I1.hok.fresh M.dbig)⟩
    · by_cases hb : b = e
      · have q' : G'.get? b = some o := q
        rw [hb, ge] at q'; cases q'
      · exact (gk b hb).symm.trans q
    · rw [upd_ne (Ne.symm M.dne)]
      exact I1.hok.fresh M.new
/-- raise BadX(e) -/
def tRaisePl (C : Addr) (W : WX) (ta : TA) : TS := fun _ σ H => tMkPl C ta σ H fun cls d H' => W cls d σ H'
theorem ps_raisePl {a : Expr} {ta : TA} {W : WX} {p pos pos2 : Pos} {k : Nat} (hc : X.calm = true) (T : PySem.PlX.Txt X.prog X.K X.mg nmC qI C fI) (hr : Room k X.A) (tk : Takes X W) (ha : PA X [a] ta) (hg : Gl X nmC := by rfl) (hdb : (nmC == ("__debug__" : Str)) = false := by decide)
    (he : starEach (a :: []) X.env = (false, eval a X.env) :: starEach [] X.env := by rfl) (hpl : (backTo pos (starEach [] X.env)).any (·.1) = false := by rfl) :
    PS X (.Raise (some (.Call (.Name nmC p) [a] [] pos)) none pos2) (tRaisePl C W ta) := ps_raise hc tk (pmk_pl T hr ha hg hdb he hpl)
/-- e.place, e the exception that the suite holds (at a; its class cls, its dict d) -/
def tPlace (C : Addr) (a : Addr) (cls : Value) (d : Option Addr) (te : TE) : TE := fun σ H Q => te σ H fun x H1 => x = .ref a ∧ cls = .ref C ∧ ∃ (dd : Addr) (v : V), d = some dd ∧ H1 dd = some (.xd [(("place" : Str), v)]) ∧ Q v H1
theorem pe_place {a : Addr} {oe : Obj} {cls : Value} {d : Option Addr} {pn : List (Addr × Obj)} {e : Expr} {te : TE} {pos : Pos} (T : PySem.PlX.Txt X.prog X.K X.mg nmC qI C fI) (hz : Zc cls d oe) (hf : ∃ vs, oe.data = .fields vs) (he : PE (X.suite a ((a, oe) :: pn)) e te)
    (hb : attributeBase e "place" X.env (eval e X.env) = eval e X.env := by rfl) :
    PE (X.suite a ((a, oe) :: pn)) (.Attribute e "place" pos) (tPlace C a cls d te) := by
  refine ⟨fun pins s σ H Q I h => ?_⟩
  refine attr_of hb (thn (he.run pins s σ H _ I h) fun u s1 hh => ?_)
  obtain ⟨x, H1, I1, rx, ex, ec, dd, v, ed, ea, q⟩ := hh
  subst ex
  obtain rfl : u = Value.ref a := rx
  subst ec
  subst ed
  obtain ⟨ha, _⟩ := I1.pin (a, oe) (List.mem_append_left _ List.mem_cons_self)
  obtain ⟨vs, hd⟩ := hf
  have hx : ObjOk X.prog X.w H1 s1.heap dd (.xd [(("place" : Str), v)]) := I1.hok dd _ ea
  obtain ⟨mA, hns, hr⟩ := hx
  obtain ⟨od, ho, hl⟩ := lookIn_ns hns
  have l : List.lookup ("place" : Str) [(("place" : Str), v)] = some v := by simp [List.lookup]
  obtain ⟨u, hu, ru⟩ := RelO.some_of (v := v) (o := mA "place") (by rw [← l]; exact hr "place")
  have J : PySem.W.InstAt s1.heap a oe C (some od) := ⟨ha, hz.1, by unfold PySem.W.notCls; rw [hd] <;> rfl, by rw [hz.2]; exact ho⟩
  exact HandSPX.exc_get I1.kIn J T.ga T.gg T.exC (PySem.W.findObj_own T.hdC T.noN rfl (by rw [hl, hu])) (handed_of ru) ⟨v, H1, I1.tok _, ru, q⟩
end
end Pd

set_option maxHeartbeats 4000000
namespace Pd
open PySem PySem.Spec PyProof.Rows L2
section
variable {X : Cx} {C fI : Addr} {nmC qI : Str}
/-- what the class at C must say, so that isinstance answers of its instances -/
structure IsC (K : PySem.W.Frag) (C : Addr) : Prop where
  ha : PySem.W.findIn K (.ref C) "__class__" = some (some (.builtin "object.__class__"))
  hn : PySem.W.specialIn K (.builtin "object.__class__") "__get__" = some (some (.builtin "getset_descriptor.__get__"))
  ht : PySem.W.takesIn K (.builtin "object.__class__") = some true
  hm : PySem.W.mroIn K C (.type "object") = some true
/-- isinstance(e, BadX), e the BadX that the suite holds -/
def rIsPl (C a : Addr) (cls : Value) (d : Option Addr) : List V → Hp → VK → Prop := fun xs H Q => ∃ (dd : Addr) (fs : List (Str × V)), xs = [.ref a, .ref C] ∧ cls = .ref C ∧ d = some dd ∧ H dd = some (.xd fs) ∧ Q (.bl true) H
theorem call_isPl {a : Addr} {oe : Obj} {cls : Value} {d : Option Addr} {pn : List (Addr × Obj)} (T : PySem.PlX.Txt X.prog X.K X.mg nmC qI C fI) (S : IsC X.K C) (hz : Zc cls d oe) (hf : ∃ vs, oe.data = .fields vs) :
    CallR (X.suite a ((a, oe) :: pn)) (.builtin "isinstance") (rIsPl C a cls d) := by
  intro pins s σ H xs us Q I r h
  obtain ⟨dd, fs, rfl, ec, ed, ea, q⟩ := h
  subst ec ed
  cases r with
  | cons rx rr =>
    cases rr with
    | cons rt rr =>
      cases rr
      cases rx
      cases rt
      obtain ⟨ha, _⟩ := I.pin (a, oe) (List.mem_append_left _ List.mem_cons_self)
      obtain ⟨vs, hd⟩ := hf
      have hx : ObjOk X.prog X.w H s.heap dd (.xd fs) := I.hok dd _ ea
      obtain ⟨mA, hns, hr⟩ := hx
      obtain ⟨od, ho, hl⟩ := lookIn_ns hns
      have J : PySem.W.InstAt s.heap a oe C (some od) := ⟨ha, hz.1, by unfold PySem.W.notCls; rw [hd] <;> rfl, by rw [hz.2]; exact ho⟩
      have hcl : (PySem.W.clsIn X.K C).isSome = true := by
        obtain ⟨nm, q, N, bs, bm, sn, sub, ab, col, dd, k0, k1, k2, k3, k5, hC, hbm⟩ := T.cls
        unfold PySem.W.clsIn
        rw [hC] <;> rfl
      have e1 : PySem.W.kitOne X.K (.ref C) (.ref C) = some true := by
        unfold PySem.W.kitOne
        rw [if_pos (by simp)]
      exact PySem.W.kia_one (PySem.W.kitx_exc hcl T.ga T.gg T.exC S.ha S.hn S.ht S.hm) I.kIn J e1 (fun z => nomatch z) fun tk => ⟨.bl true, H, I.kept (t' := tk) fun _ _ z => z, rfl, q⟩
end
end Pd

set_option maxHeartbeats 4000000
namespace Pd
open PySem PySem.Spec PyProof.Rows L2
/-- a def that may raise, where it does not -/
theorem calmFn {P : Program} {w : World} {K : PySem.W.Frag} {mg : Str → Option Value} {base : Heap} {k : Nat} {f : Addr} {fd : FuncData} {ps : List Str} {sp sp' : Sp} (F : FnOk P w K mg base (L2.CX P w) k f fd ps sp)
    (h : ∀ vs H Q E, sp' vs H Q E → sp vs H Q E0) : FnOk P w K mg base CX0 k f fd ps sp' := by
  refine ⟨fun vs H Q E q => F.len vs H Q E0 (h _ _ _ _ q), fun A outer s H args us vs Q E hr he hb hv hs => codeAny_mono (F.run A outer s H args us vs Q E0 hr he hb hv (h _ _ _ _ hs)) fun r s' z => ?_⟩
  cases r with
  | error e =>
    obtain ⟨_, _, _, _, _, _, _, _, _, _, _, _, z⟩ := z
    exact z.elim
  | ok fl => cases fl <;> exact z
def D.isLst : D → Bool
  | .oth n => n == "list"
  | _ => false
theorem Tp.kLst {K : PySem.W.Frag} {H : Hp} {v : V} {d : D} (t : Tp K H v d) : PySem.W.kitOne K (.type d.ty) (.type "list") = some d.isLst := by
  cases t with
  | non => exact kit_ty (by show kitB "NoneType" "list" = some false; decide +kernel)
  | bl b => exact kit_ty (by show kitB "bool" "list" = some false; decide +kernel)
  | int i => exact kit_ty (by show kitB "int" "list" = some false; decide +kernel)
  | str x => exact kit_ty (by show kitB "str" "list" = some false; decide +kernel)
  | lst h => exact kit_ty (by show kitB "list" "list" = some true; decide +kernel)
  | dct h => exact kit_ty (by show kitB "dict" "list" = some false; decide +kernel)
  | tup h hs => exact kit_ty (by show kitB "tuple" "list" = some false; decide +kernel)
/-- the argument walk: a list of data, or what is no list -/
def Arg (K : PySem.W.Frag) (H : Hp) (x : V) : Option (List D) → Prop
  | some ds => ∃ a xs, x = .ref a ∧ H a = some (.lst xs) ∧ TpAll K H xs ds
  | none => ∃ d, Tp K H x d ∧ d.isLst = false
def endOf (w : Web) : Option (List D) → Int × Int × Option Int
  | none => (0, 0, some (-1))
  | some ds => match (go w (ds.take 10000) 0 0 0).2.2 with
    | some k => (0, 0, some k)
    | none => if 10000 < ds.length then (0, 0, some 10000) else ((go w (ds.take 10000) 0 0 0).1, (go w (ds.take 10000) 0 0 0).2.1, none)
theorem endOf_bad {w : Web} {ds : List D} {j : Nat} (h : (go w (ds.take 10000) 0 0 0).2.2 = some j) : endOf w (some ds) = (0, 0, some (j : Int)) := by
  show (match (go w (ds.take 10000) 0 0 0).2.2 with | some k => _ | none => _ : Int × Int × Option Int) = _
  rw [h]
theorem endOf_long {w : Web} {ds : List D} (h : (go w (ds.take 10000) 0 0 0).2.2 = none) (hl : 10000 < ds.length) : endOf w (some ds) = (0, 0, some 10000) := by
  show (match (go w (ds.take 10000) 0 0 0).2.2 with | some k => _ | none => _ : Int × Int × Option Int) = _
  rw [h]
  exact if_pos hl
theorem endOf_ok {w : Web} {ds : List D} (h : (go w (ds.take 10000) 0 0 0).2.2 = none) (hl : ¬ 10000 < ds.length) : endOf w (some ds) = ((go w (ds.take 10000) 0 0 0).1, (go w (ds.take 10000) 0 0 0).2.1, none) := by
  show (match (go w (ds.take 10000) 0 0 0).2.2 with | some k => _ | none => _ : Int × Int × Option Int) = _
  rw [h]
  exact if_neg hl
def spEnd (C : Addr) (K : PySem.W.Frag) : Sp := fun vs H Q E => ∃ (v x : V) (w : Web) (o : Option (List D)), vs = [v, x] ∧ Tp K H v (webD w) ∧ OkWeb w ∧ Arg K H x o ∧
  ((endOf w o).2.2 = none → ∀ p H', Same H H' → H p = none → H' p = some (.tup [.int (endOf w o).1, .int (endOf w o).2.1]) → Q (.ref p) H') ∧
  (∀ k, (endOf w o).2.2 = some k → ∀ d H', Same H H' → H d = none → H' d = some (.xd [(("place" : Str), .int k)]) → E (.ref C) (some d) H')
/-- the same where it does not raise -/
def spEndG (K : PySem.W.Frag) : Sp := fun vs H Q _ => ∃ (v x : V) (w : Web) (o : Option (List D)), vs = [v, x] ∧ Tp K H v (webD w) ∧ OkWeb w ∧ Arg K H x o ∧ (endOf w o).2.2 = none ∧
  ∀ p H', Same H H' → H p = none → H' p = some (.tup [.int (endOf w o).1, .int (endOf w o).2.1]) → Q (.ref p) H'
/-- what _law_told returns -/
def toldT (w : Web) (o : Option (List D)) : List V := match (endOf w o).2.2 with
  | none => [.int (endOf w o).1, .int (endOf w o).2.1]
  | some k => [.str "bad", .bl true, .int k]
def spTold (K : PySem.W.Frag) : Sp := fun vs H Q _ => ∃ (v x : V) (w : Web) (o : Option (List D)), vs = [v, x] ∧ Tp K H v (webD w) ∧ OkWeb w ∧ Arg K H x o ∧
  ∀ p H', Same H H' → H p = none → H' p = some (.tup (toldT w o)) → Q (.ref p) H'
theorem Arg.mono {K : PySem.W.Frag} {H H' : Hp} {x : V} {o : Option (List D)} (s : Same H H') (h : Arg K H x o) : Arg K H' x o := by
  cases o with
  | none => obtain ⟨d, t, e⟩ := h; exact ⟨d, t.mono (Le.of s), e⟩
  | some ds => obtain ⟨a, xs, e, q, t⟩ := h; exact ⟨a, xs, e, s _ _ q, t.mono (Le.of s)⟩
end Pd

set_option maxHeartbeats 4000000
/-! Defs that are run where no repr is under way (A.guards = some []): the law's outermost ones, which compare reprs. -/
namespace Pd
open PySem PySem.Spec PyProof.Rows L2
structure FnG (P : Program) (w : World) (K : PySem.W.Frag) (mg : Str → Option Value) (base : Heap) (k : Nat) (f : Addr) (fd : FuncData) (ps : List Str) (sp : Sp) : Prop where
  len : ∀ vs H Q E, sp vs H Q E → vs.length = ps.length
  run : ∀ (A : Around) (outer : List Env) (s : Shared) (H : Hp) (args : Args) (us : List Value) (vs : List V) (Q : VK) (E : XK), A.guards = some [] → Room k A → Env0 P w K mg base A outer s H → BindsTo s fd args (ps.zip us) → Vals vs us → sp vs H Q E →
    codeAny (model P w) A (.call (.ref f) args) (CR CX0 outer P w H s Q E) s
theorem guards_deeper (A : Around) (env : Env) : (A.deeper env).guards = A.guards := rfl
section
variable {P : Program} {w : World} {K : PySem.W.Frag} {mg : Str → Option Value} {base : Heap}
theorem okG {x qual : Str} {st : Stmt} {f : Addr} {fd : FuncData} {N ps : List Str} {k : Nat} {sp : Sp} (F : L2.Fun K x qual st f fd) (S : FnScope N ps (defScope st)) (len : ∀ vs H Q E, sp vs H Q E → vs.length = ps.length)
    (hbody : ∀ (cdv : Value) (A : Around) (outer : List Env) (s : Shared) (H : Hp) (vs : List V) (Q : VK) (E : XK), A.guards = some [] → Room k (A.deeper (envOfC qual (defScope st) s.heap.objs.size f cdv)) → sp vs H Q E →
      ∃ t, PSs (cxOf CX0 P w K mg base N qual (defScope st) f cdv A outer s H E).nox (defBody st) t ∧ t { nx := fun _ H' => Q .non H', rt := Q } (start N vs) H) : FnG P w K mg base (k + 1) f fd ps sp := by
  obtain ⟨oc, od, kV, doc, pm, an, cdv, ct, osl, rfl, lk, hcd⟩ := F.ex
  constructor
  · exact len
  intro A outer s H args us vs Q E hgd hr e0 hb r hsp
  have up : ∀ b o, base.get? b = some o → s.heap.get? b = some o := fun b o e => (e0.bs b o e).1
  have KX : K.In s.heap := e0.mod.kin.keeps up
  obtain ⟨t, ht0, hq⟩ := hbody cdv A outer s H vs Q E hgd (hr.deeper _) hsp
  have ht := ht0.nox
  refine codeAny_call_function hr.depth (KX _ _ lk) rfl S.co S.gen rfl (PySem.W.codeRec_of KX hcd) (hb _ _ _ _ ?_)
  refine wpAny_newFunctionEnv_cells S.kind (fun y hy => ?_) fun env he s1 x => ?_
  · rcases S.par y.1 (List.of_mem_zip (show (y.1, y.2) ∈ ps.zip us from hy)).1 with q | q
    · exact .inl q
    · exact .inr ⟨q, PySem.W.cellsFrom_some _ _ _ (.inl q)⟩
  subst he
  have I := inv_start (CX := CX0) (P := P) (w := w) (K := K) (mg := mg) (base := base) (E := E) S hr.hd e0 (len _ _ _ _ hsp) r x
  refine ⟨(e0.mod.nolimit.keeps up).keeps x.toInCall.keep, codeAny_func (wpAny_mono (ht.run [] s1 (start N vs) H _ I hq) (fun fl s' hs => ?_) fun e s' z => z)⟩
  cases fl with
  | ret u =>
    obtain ⟨v, σ', H', J, rv, q⟩ := hs
    exact ⟨v, H', J.os, J.bare, J.base, J.hok, rv, q⟩
  | next =>
    obtain ⟨σ', H', J, q⟩ := hs
    exact ⟨.non, H', J.os, J.bare, J.base, J.hok, rfl, q⟩
  | brk => obtain ⟨_, _, _, q⟩ := hs; exact q.elim
  | cont => obtain ⟨_, _, _, q⟩ := hs; exact q.elim
end
structure FnGn (P : Program) (w : World) (K : PySem.W.Frag) (mg : Str → Option Value) (base : Heap) (k : Nat) (x : Str) (sp : Sp) : Prop where
  ex : ∃ (f : Addr) (fd : FuncData) (ps : List Str), FnG P w K mg base k f fd ps sp ∧ mg x = some (.ref f) ∧ PySem.W.keepIn K (.ref f) = true ∧ Binds K fd ps []
section
variable {X : Cx} {k j : Nat} {x : Str} {sp : Sp} {p pos : Pos} {e : Expr} {es : List Expr} {t : TA}
theorem pe_fg (c : FnGn X.prog X.w X.K X.mg X.base k x sp) (hgd : X.A.guards = some []) (hr : Room j X.A) (hk : k ≤ j) (hg : Gl X x) (ha : PA X (e :: es) t)
    (hdb : (x == ("__debug__" : Str)) = false := by decide) (he : starEach (e :: es) X.env = (false, eval e X.env) :: starEach es X.env := by rfl) (hpl : (backTo pos (starEach es X.env)).any (·.1) = false := by rfl) :
    PE X (.Call (.Name x p) (e :: es) [] pos) (tCall sp [] E0 t) := by
  obtain ⟨f, fd, ps, F, hm, kp, b⟩ := c.ex
  refine ⟨fun pins s σ H Q I h => wpAny_Call_Name_kw (ld_glob I hg hm ?_ hdb)⟩
  refine PySem.W.callWith_K (h₀ := X.base) I.ok.mod.kin kp (thn (ha.run pos pins s σ H _ I h) fun us s1 ⟨vs, H1, I1, r, q⟩ => ⟨I1.kIn, ?_⟩) he hpl
  have q' : sp vs H1 Q E0 := by
    have z : sp (vs ++ []) H1 Q E0 := q
    rw [List.append_nil] at z
    exact z
  have hl : us.length = ps.length := r.length.symm.trans (F.len _ _ _ _ q')
  have hb := b s1 us I1.kIn (by rw [List.append_nil]; exact hl)
  rw [List.append_nil] at hb
  refine wpAny_call (codeAny_mono (F.run X.A X.stack s1 H1 ⟨us, []⟩ us vs Q E0 hgd (hr.mono hk) I1.env0 hb r q') fun rr s' hq => ?_)
  cases rr with
  | error e => exact hq.elim
  | ok fl =>
    cases fl with
    | ret u => exact I1.after hq
    | next => exact False.elim hq
    | brk => exact False.elim hq
    | cont => exact False.elim hq
/-- repr(x), x data -/
def rRepr (K : PySem.W.Frag) : List V → Hp → VK → Prop := fun xs H Q => ∃ (a : Addr) (d : PyData), xs = [.ref a] ∧ Dp K H (.ref a) d ∧ d.showable = true ∧ d.hasDict = false ∧ d.depth ≤ 60 ∧ d.shown.length ≤ sizeLine ∧ Q (.str d.shown) H
theorem call_reprD (hgd : X.A.guards = some []) (hu : X.A.units + 64 < cLine) : CallR X (.builtin "repr") (rRepr X.K) := by
  intro pins s σ H xs us Q I r h
  obtain ⟨a, d, rfl, hd, hs, hn, hdep, hz, q⟩ := h
  obtain ⟨u, rfl, rx⟩ := vals1 r
  obtain ⟨as, rd⟩ := Dp.reads I d _ u hd rx
  cases rx
  exact repr_of_reads' rd hs (PyData.noDict_hsm hn) hgd (by omega) (fun _ _ e => e) (fun h' u tk hk => ⟨.str d.shown, H, I.kept hk, ⟨_, rfl⟩, q⟩) hz
end
end Pd

set_option maxHeartbeats 4000000
namespace Pd
open PySem PySem.Spec PyProof.Rows L2
/-- the law's own call, its def kept by FnG -/
theorem law_callG {P : Program} {w : World} {K : PySem.W.Frag} {mg mb : Str → Option Value} {k : Nat} {fa a : Addr} {fd : FuncData} {x : Str} {sp : Sp} {s1 : Shared} {vs : List Value} {ns : List Int}
    (KX : K.In s1.heap) (hns : s1.heap.Ns mainGlobals mg) (hb : s1.heap.Ns builtinsNs mb) (hbb : ∀ x : Str, x ≠ "__name__" → mb x = bootBuiltins x) (hlim : s1.heap.NoLimit) (hg : s1.gens = #[])
    (ha : s1.heap.get? a = some { cls := .type "list", data := .seq vs.toArray }) (hi : IntsAre vs ns) (hl : ns.length ≤ sizeLine) (hr : Room k callerA)
    (F : ∀ base : Heap, K.In base → base.Ns mainGlobals mg → FnG P w K mg base k fa fd [x] sp) (hbind : ∀ (s : Shared) (u : Value), BindsTo s fd ⟨[u], []⟩ [(x, u)])
    (hsp : ∀ H : Hp, Only H → SqL K H a (ns.map V.int) → sp [.ref a] H (fun v _ => v = .bl true) fun _ _ _ => False) :
    codeAny (model P w) callerA (.call (.ref fa) ⟨[.ref a], []⟩) (fun r s' => r = .ok (.ret (.bool true)) ∧ OldK s1.heap s'.heap ∧ s'.os = s1.os ∧ AllBare s'.gens) s1 := by
  have rv := vals_ints hi
  have lenV := hi.length
  have main : ∀ H : Hp, Only H → SqL K H a (ns.map V.int) → HOk P w H s1.heap → (∀ b u, H b = some u → b = a ∧ K.lookup a = none) →
      codeAny (model P w) callerA (.call (.ref fa) ⟨[.ref a], []⟩) (fun r s' => r = .ok (.ret (.bool true)) ∧ OldK s1.heap s'.heap ∧ s'.os = s1.os ∧ AllBare s'.gens) s1 := by
    intro H only hS hok where_
    have free : ∀ {b : Addr}, (b = a → K.lookup a = none → False) → H b = none := fun {b} no => by
      cases q : H b with
      | none => rfl
      | some u => exact ((no (where_ b u q).1) (where_ b u q).2).elim
    have dicts : ∀ {b : Addr} {m : Str → Option Value}, s1.heap.Ns b m → (hidT s1.heap H).Ns b m := fun {b m} ⟨o, es, ep, e, d, r⟩ => by
      refine ⟨o, es, ep, hidT_get e (free fun z _ => ?_), d, r⟩
      subst z
      rw [ha] at e
      cases e
      exact nomatch (show Data.seq vs.toArray _ = Data.dict es ep from d)
    have kin : K.In (hidT s1.heap H) := fun b o e => hidT_get (KX b o e) (free fun z q => by subst z; rw [q] at e; cases e)
    obtain ⟨mc, l1, l2⟩ := hlim
    have md : Mod K mg (hidT s1.heap H) := ⟨kin, dicts hns, ⟨mb, dicts hb, hbb⟩, ⟨mc, dicts l1, l2⟩⟩
    have e0 : Env0 P w K mg (hidT s1.heap H) callerA [] s1 H := ⟨rfl, md, fun b o e => of_hidT e, Nat.le_of_eq (hidT_size _ _), trivial, fun b z => absurd (show b ∈ ([] : List Addr) from z) (by simp), hok, .of_eq hg⟩
    have go := (F _ kin (dicts hns)).run callerA [] s1 H ⟨[.ref a], []⟩ [.ref a] [.ref a] _ _ rfl hr e0 (hbind s1 (.ref a)) (.cons rfl .nil) (hsp H only hS)
    refine codeAny_mono go fun r s' z => ?_
    cases r with
    | error e => exact z.elim
    | ok fl =>
      cases fl with
      | next => exact False.elim z
      | brk => exact False.elim z
      | cont => exact False.elim z
      | ret u =>
        obtain ⟨v, H', os, bare, un, hok', r', q⟩ := z
        obtain rfl : v = .bl true := q
        obtain rfl : u = Value.bool true := r'
        refine ⟨rfl, OldK.of_keep fun b o e => ?_, os, bare⟩
        rcases only b with n | ⟨ob, xs, f⟩
        · exact un.keep b o e n (fun y => absurd (show b ∈ ([] : List Addr) from y) (by simp)) (by simp)
        · have f' := un.frzs b ob _ f
          have e1 : s1.heap.get? b = some ob := (hok b _ f).1
          have e2 : s'.heap.get? b = some ob := (hok' b _ f').1
          exact e2.trans (e1.symm.trans e)
  cases hk : K.lookup a with
  | some o =>
    have e := KX a o hk
    rw [ha] at e
    cases e
    exact main (fun _ => none) (fun _ => .inl rfl) (.inr ⟨_, vs.toArray, _, hk, rfl, rfl, rfl, by rw [List.size_toArray, lenV]; exact hl, by simpa using rv⟩) (fun b u z => by cases (show (none : Option HO) = some u from z)) (fun b u z => by cases (show (none : Option HO) = some u from z))
  | none =>
    have at_ : ∀ {b : Addr} {u : HO}, (if b = a then some (HO.frz { cls := .type "list", data := .seq vs.toArray } (.lst (ns.map V.int))) else none) = some u → b = a ∧ u = .frz { cls := .type "list", data := .seq vs.toArray } (.lst (ns.map V.int)) := fun {b u} z => by
      by_cases h : b = a
      · rw [if_pos h] at z
        exact ⟨h, (Option.some.inj z).symm⟩
      · rw [if_neg h] at z
        cases z
    refine main (fun b => if b = a then some (.frz { cls := .type "list", data := .seq vs.toArray } (.lst (ns.map V.int))) else none) (fun b => ?_) (.inl (.inr ⟨_, if_pos rfl⟩)) (fun b u z => ?_) fun b u z => ⟨(at_ z).1, hk⟩
    · by_cases h : b = a
      · exact .inr ⟨_, _, if_pos h⟩
      · exact .inl (if_neg h)
    · obtain ⟨rfl, rfl⟩ := at_ z
      exact ⟨ha, by rw [List.length_map]; exact hl, vs, _, rv, ha⟩
theorem walk_ofG {l : PySem.W.OpenLaw} {n k : Nat} {q : Program} {loose : List Str} {XP : (Str → Option Value) → Heap → Prop} {YP : World → Heap → Prop} {d : DefRec} {K : Params → PySem.W.Frag} {sp : World → Sp} {x : Str}
    (hn : l.most = some n) (hn2 : n ≤ sizeLine) (hdf : d.params.defaults = []) (hr : Room k callerA) (hY : ∀ (w : World) (h : Heap), YP w h → (K w.params).In h)
    (F : ∀ (w : World) (mg : Str → Option Value) (fa : Addr) (h : Heap), (K w.params).In h → h.Ns mainGlobals mg → mg d.name = some (.ref fa) →
      ∃ fd : FuncData, (∀ (s : Shared) (u : Value), BindsTo s fd ⟨[u], []⟩ [(x, u)]) ∧ ∀ base : Heap, (K w.params).In base → base.Ns mainGlobals mg → FnG l.prog w (K w.params) mg base k fa fd [x] (sp w))
    (hsp : ∀ (w : World) (H : Hp) (a : Addr) (ns : List Int), ns.length ≤ n → Only H → SqL (K w.params) H a (ns.map V.int) → sp w [.ref a] H (fun v _ => v = .bl true) fun _ _ _ => False) :
    PySem.W.WalkO q loose XP YP l.row.toRowW d [] (fun f vs => PySem.call f vs) := by
  refine Att.attach_call hn hdf fun w s0 s1 mg mb fa o pm cd doc a vs ns G Y ho hd hcd hmg hobj hints hlen hg => ?_
  obtain ⟨fd, hb, hF⟩ := F w mg fa _ (hY w _ Y) G.T.g hmg
  exact law_callG (hY w _ Y) G.T.g G.T.b G.T.builtins G.T.nolimit hg hobj hints (Nat.le_trans hlen hn2) hr hF hb fun H hO hS => hsp w H a ns hlen hO hS
end Pd

set_option maxHeartbeats 4000000
namespace Pd
open PySem PySem.Spec PyProof.Rows L2
/-! ### data that repr may show -/
structure Shw (d : PyData) : Prop where
  sh : d.showable = true
  nd : d.hasDict = false
  dp : d.depth ≤ 60
  ln : d.shown.length ≤ sizeLine
theorem small_log {n : Nat} (h : n < 10 ^ 12) : n.log2 < 1920 := by
  by_cases h0 : n = 0
  · subst h0; decide
  · rw [Nat.log2_lt h0]
    exact Nat.lt_of_lt_of_le h (by decide +kernel)
theorem small_txt {i : Int} (h : i.natAbs < 10 ^ 12) : (PyData.shown (.int i)).length ≤ 13 := by
  show (Str.ofString (toString i)).length ≤ 13
  rw [PySem.ofString_length]
  exact int_text_length_le10 (k := 12) (by decide) h
theorem small_show {i : Int} (h : i.natAbs < 10 ^ 12) : PyData.showable (.int i) = true := by
  rw [PyData.showable]
  exact decide_eq_true (small_log h)
theorem shw_ii {i j : Int} (hi : i.natAbs < 10 ^ 12) (hj : j.natAbs < 10 ^ 12) : Shw (.tuple [.int i, .int j]) := by
  have e1 := small_txt hi
  have e2 := small_txt hj
  refine ⟨?_, ?_, ?_, ?_⟩
  · simp only [PyData.showable, PyData.showableAll, decide_eq_true (small_log hi), decide_eq_true (small_log hj), Bool.and_true]
  · simp only [PyData.hasDict, PyData.hasDictAll, Bool.or_false]
  · simp [PyData.depth, PyData.depthAll]
  · have h := tupleText_len_le (PyData.shownAll [.int i, .int j])
    have e : PyData.shownAll [.int i, .int j] = [PyData.shown (.int i), PyData.shown (.int j)] := by simp only [PyData.shownAll]
    rw [PyData.shown, sizeLine_eq]
    rw [e] at h ⊢
    simp only [List.map_cons, List.map_nil, List.sum_cons, List.sum_nil, List.length_cons, List.length_nil] at h
    omega
theorem shw_bad {j : Int} (hj : j.natAbs < 10 ^ 12) : Shw (.tuple [.str "bad", .bool true, .int j]) := by
  have e2 := small_txt hj
  refine ⟨?_, ?_, ?_, ?_⟩
  · simp only [PyData.showable, PyData.showableAll, decide_eq_true (small_log hj), Bool.and_true]
  · simp only [PyData.hasDict, PyData.hasDictAll, Bool.or_false]
  · simp [PyData.depth, PyData.depthAll]
  · have h := tupleText_len_le (PyData.shownAll [.str "bad", .bool true, .int j])
    have e : PyData.shownAll [.str "bad", .bool true, .int j] = [PyData.shown (.str "bad"), PyData.shown (.bool true), PyData.shown (.int j)] := by simp only [PyData.shownAll]
    have e3 : (PyData.shown (.str "bad")).length ≤ 100 := by rw [PyData.shown]; decide +kernel
    have e4 : (PyData.shown (.bool true)).length ≤ 100 := by rw [PyData.shown]; decide +kernel
    rw [PyData.shown, sizeLine_eq]
    rw [e] at h ⊢
    simp only [List.map_cons, List.map_nil, List.sum_cons, List.sum_nil, List.length_cons, List.length_nil] at h
    omega
theorem showAll_ints : ∀ ns : List Int, (∀ n ∈ ns, n.natAbs < 10 ^ 12) → PyData.showableAll (ns.map PyData.int) = true ∧ PyData.hasDictAll (ns.map PyData.int) = false ∧ (PyData.shownAll (ns.map PyData.int)).length = ns.length ∧ ((PyData.shownAll (ns.map PyData.int)).map (·.length)).sum ≤ 13 * ns.length
  | [], _ => ⟨rfl, rfl, rfl, Nat.le_refl _⟩
  | n :: ns, h => by
    obtain ⟨a, b, c, d⟩ := showAll_ints ns fun m hm => h m (List.mem_cons_of_mem _ hm)
    have hn := h n (List.mem_cons_self ..)
    have e := small_txt hn
    rw [List.map_cons]
    refine ⟨?_, ?_, ?_, ?_⟩
    · rw [PyData.showableAll, small_show hn, a]; rfl
    · rw [PyData.hasDictAll, b]; rfl
    · rw [PyData.shownAll, List.length_cons, c]; rfl
    · rw [PyData.shownAll, List.map_cons, List.sum_cons, List.length_cons]
      omega
theorem shw_ints {ns : List Int} (h : ∀ n ∈ ns, n.natAbs < 10 ^ 12) (hl : ns.length ≤ 1000) : Shw (.list (ns.map PyData.int)) := by
  obtain ⟨a, b, c, d⟩ := showAll_ints ns h
  refine ⟨by rw [PyData.showable]; exact a, by rw [PyData.hasDict]; exact b, by rw [PyData.depth, dptInts]; decide, ?_⟩
  have h := listText_len_le (PyData.shownAll (ns.map PyData.int))
  rw [PyData.shown, sizeLine_eq]
  rw [c] at h
  omega
theorem sh_ii (i j : Int) : SeqAt.shaped (.tuple [.int i, .int j]) = true := by
  simp [SeqAt.shaped, PyData.canLay0, PyData.canLayAll0, PyData.depth, PyData.depthAll]
theorem eq_ii (i j : Int) : PyData.eqv (.tuple [.int i, .int j]) (.tuple [.int i, .int j]) = true := by
  simp [PyData.eqv, PyData.eqvAll]
theorem sh_bad (j : Int) : SeqAt.shaped (.tuple [.str "bad", .bool true, .int j]) = true := by
  have : PyData.canLay0 (.str "bad") = true := by decide +kernel
  simp [SeqAt.shaped, PyData.canLay0, PyData.canLayAll0, PyData.depth, PyData.depthAll] at this ⊢
  exact this
theorem eq_bad (j : Int) : PyData.eqv (.tuple [.str "bad", .bool true, .int j]) (.tuple [.str "bad", .bool true, .int j]) = true := by
  simp [PyData.eqv, PyData.eqvAll]
theorem dp_ii {K : PySem.W.Frag} {H : Hp} {p : Addr} {i j : Int} (e : H p = some (.tup [.int i, .int j])) : Dp K H (.ref p) (.tuple [.int i, .int j]) := .tup (SqT.of e) (.cons (.int i) (.cons (.int j) .nil))
theorem dp_bad {K : PySem.W.Frag} {H : Hp} {p : Addr} {j : Int} (e : H p = some (.tup [.str "bad", .bl true, .int j])) : Dp K H (.ref p) (.tuple [.str "bad", .bool true, .int j]) := .tup (SqT.of e) (.cons (.str _) (.cons (.bl _) (.cons (.int j) .nil)))
theorem dp_ints {K : PySem.W.Frag} {H : Hp} {p : Addr} {ns : List Int} (e : H p = some (.lst (ns.map V.int))) : Dp K H (.ref p) (.list (ns.map PyData.int)) := .lst (SqL.of e) (dpInts ns)
/-- the sum of a right walk -/
theorem goodWalk.goB {w : Web} (ok : OkWeb w) : ∀ {is : List Int} {s e : Int} {t : Int} {p : Nat}, 0 ≤ s → s < w.length → goodWalk w s is e → ∃ t', Pd.go w (is.map D.int) s t p = (e, t', none) ∧ t - 1000000 * is.length ≤ t' ∧ t' ≤ t + 1000000 * is.length
  | [], s, e, t, p, _, _, h => by
    have : s = e := h
    subst this
    exact ⟨t, rfl, by simp, by simp⟩
  | j :: js, s, e, t, p, h0, h1, h => by
    have so := step_ok ok h0 h1 h.1
    obtain ⟨t', e', b1, b2⟩ := goodWalk.goB ok (t := t + (moveOf (nodeAt w s) (.int j)).1) (p := p + 1) so.1 so.2 h.2
    have hm : -1000000 ≤ (moveOf (nodeAt w s) (.int j)).1 ∧ (moveOf (nodeAt w s) (.int j)).1 ≤ 1000000 := by
      have hi := h.1
      have h' : (decide (0 ≤ j) && decide (j ≤ (nodeAt w s).length - 1)) = true := hi
      rw [Bool.and_eq_true, decide_eq_true_eq, decide_eq_true_eq] at h'
      have hj : j.toNat < (nodeAt w s).length := by omega
      show -1000000 ≤ ((nodeAt w s)[j.toNat]?.getD (0, 0)).1 ∧ ((nodeAt w s)[j.toNat]?.getD (0, 0)).1 ≤ 1000000
      rw [List.getElem?_eq_getElem hj]
      have z := (nodeAt_ok ok h0 h1).2.2 _ (List.getElem_mem hj)
      exact ⟨z.1, z.2.1⟩
    refine ⟨t', ?_, ?_, ?_⟩
    · rw [List.map_cons]
      unfold Pd.go
      rw [if_pos h.1]
      exact e'
    · rw [List.length_cons]; omega
    · rw [List.length_cons]; omega
def spRight (K : PySem.W.Frag) : Sp := fun vs H Q _ => ∃ (h : Addr) (v : V) (w : Web), vs = [.ref h, v] ∧ HandOk H h ∧ Tp K H v (webD w) ∧ OkWeb w ∧ ∀ H', Go h H H' → Q (.bl true) H'
end Pd

set_option maxHeartbeats 4000000
namespace Pd
open PySem PySem.Spec PyProof.Rows L2
/-! ### a line of 120 nodes -/
def lineN (i : Nat) : List (Int × Int) := [(1, if (i : Int) + 1 < 119 then (i : Int) + 1 else 119)]
def lineW : Web := (List.range 120).map lineN
theorem line_len : lineW.length = 120 := by unfold lineW; rw [List.length_map, List.length_range]
theorem line_ok : OkWeb lineW := by
  refine ⟨by rw [line_len]; decide, by rw [line_len]; decide, fun nd hn => ?_⟩
  unfold lineW at hn
  obtain ⟨i, hi, rfl⟩ := List.mem_map.mp hn
  rw [List.mem_range] at hi
  refine ⟨by show 1 ≤ 1; decide, by show 1 ≤ 12; decide, fun m hm => ?_⟩
  unfold lineN at hm
  rw [List.mem_singleton] at hm
  subst hm
  rw [line_len]
  refine ⟨by show (-1000000 : Int) ≤ 1; decide, by show (1 : Int) ≤ 1000000; decide, ?_, ?_⟩
  · show 0 ≤ (if (i : Int) + 1 < 119 then (i : Int) + 1 else 119)
    split <;> omega
  · show (if (i : Int) + 1 < 119 then (i : Int) + 1 else 119) < 120
    split <;> omega
theorem line_at {i : Nat} (h : i < 120) : nodeAt lineW i = lineN i := by
  unfold nodeAt lineW
  rw [show ((i : Int)).toNat = i by omega, List.getElem?_map, List.getElem?_range h]
  rfl
theorem line_reach : ∀ i : Nat, i < 120 → Reach lineW 0 i
  | 0, _ => .refl
  | i + 1, h => by
    have z := line_reach i (by omega)
    have hm : ((1 : Int), ((i + 1 : Nat) : Int)) ∈ nodeAt lineW i := by
      rw [line_at (by omega)]
      unfold lineN
      rw [List.mem_singleton]
      congr 1
      split <;> omega
    exact .step z hm
theorem line_met : MetList lineW 0 ((List.range 120).map fun i => 0 + ((i : Nat) : Int)) := by
  constructor
  · rw [List.pairwise_map]
    exact (List.pairwise_lt_range (n := 120)).imp fun {a b} h => by omega
  · intro t
    rw [List.mem_map]
    constructor
    · rintro ⟨i, hi, rfl⟩
      rw [List.mem_range] at hi
      rw [Int.zero_add]
      exact line_reach i hi
    · intro r
      have := r.inside line_ok (Int.le_refl _) (by rw [line_len]; decide)
      rw [line_len] at this
      exact ⟨t.toNat, List.mem_range.mpr (by omega), by omega⟩
theorem line_walk : ∀ n : Nat, n ≤ 119 → ∀ (s : Nat) (t : Int) (p : Nat), s + n ≤ 119 → go lineW ((List.replicate n (0 : Int)).map D.int) s t p = (((s + n : Nat) : Int), t + n, none)
  | 0, _, s, t, p, _ => by
    show ((s : Int), t, none) = _
    simp
  | n + 1, hn, s, t, p, hs => by
    rw [List.replicate_succ, List.map_cons]
    have e : nodeAt lineW s = lineN s := line_at (by omega)
    show (if isInt 0 ((nodeAt lineW s).length - 1) (.int 0) = true then _ else _) = _
    rw [e, if_pos (by rfl)]
    have em : moveOf (lineN s) (.int 0) = (1, ((s + 1 : Nat) : Int)) := by
      show (1, if (s : Int) + 1 < 119 then (s : Int) + 1 else 119) = _
      congr 1
      split <;> omega
    rw [em]
    show go lineW ((List.replicate n (0 : Int)).map D.int) ((s + 1 : Nat) : Int) (t + 1) (p + 1) = _
    rw [line_walk n (by omega) (s + 1) (t + 1) (p + 1) (by omega)]
    congr 1
    · omega
    · congr 1
      omega
/-- a walk of zeros -/
theorem zeros_good {w : Web} (ok : OkWeb w) : ∀ (n : Nat) (s : Int), 0 ≤ s → s < w.length → ∃ e, goodWalk w s (List.replicate n 0) e
  | 0, s, _, _ => ⟨s, rfl⟩
  | n + 1, s, h0, h1 => by
    have hi : isInt 0 ((nodeAt w s).length - 1) (.int 0) = true := by
      have := (nodeAt_ok ok h0 h1).1
      show (decide ((0 : Int) ≤ 0) && decide ((0 : Int) ≤ (nodeAt w s).length - 1)) = true
      rw [decide_eq_true (show (0 : Int) ≤ (nodeAt w s).length - 1 by omega)]
      rfl
    have so := step_ok ok h0 h1 hi
    obtain ⟨e, he⟩ := zeros_good ok n _ so.1 so.2
    exact ⟨e, hi, he⟩
theorem rep_one {α : Type} (a : α) : ∀ n : Nat, (List.replicate n [a]).flatten = List.replicate n a
  | 0 => rfl
  | n + 1 => by rw [List.replicate_succ, List.flatten_cons, rep_one a n, List.replicate_succ]; rfl
theorem rep_map (n : Nat) : List.replicate n (V.int 0) = (List.replicate n (0 : Int)).map V.int := by rw [List.map_replicate]
theorem goodWalk.end {w : Web} {is : List Int} {e : Int} (ok : OkWeb w) (h : goodWalk w 0 is e) : 0 ≤ e ∧ e < w.length := by
  obtain ⟨t, eg⟩ := h.go (t := 0) (p := 0)
  have := go_in ok (is.map D.int) 0 0 0 (Int.le_refl _) (by have := ok.1; omega)
  rw [eg] at this
  exact this
/-- what is told of long walks -/
theorem told_long {w : Web} (ok : OkWeb w) : ∃ e t, go w ((List.replicate 10000 (0 : Int)).map D.int) 0 0 0 = (e, t, none) ∧ toldT w (some ((List.replicate 10000 (0 : Int)).map D.int)) = [.int e, .int t] := by
  obtain ⟨e, h⟩ := zeros_good ok 10000 0 (Int.le_refl _) (by have := ok.1; omega)
  obtain ⟨t, eg⟩ := h.go (t := 0) (p := 0)
  refine ⟨e, t, eg, ?_⟩
  have l : ((List.replicate 10000 (0 : Int)).map D.int).length = 10000 := by rw [List.length_map, List.length_replicate]
  have etk : ((List.replicate 10000 (0 : Int)).map D.int).take 10000 = (List.replicate 10000 (0 : Int)).map D.int := List.take_of_length_le (by rw [l]; exact Nat.le_refl _)
  have z := endOf_ok (w := w) (ds := (List.replicate 10000 (0 : Int)).map D.int) (by rw [etk, eg]) (by rw [l]; decide)
  rw [etk, eg] at z
  unfold toldT
  rw [z]
theorem told_over {w : Web} (ok : OkWeb w) (d : D) : toldT w (some ((List.replicate 10000 (0 : Int)).map D.int ++ [d])) = [.str "bad", .bl true, .int 10000] := by
  obtain ⟨e, t, eg, _⟩ := told_long ok
  have l : ((List.replicate 10000 (0 : Int)).map D.int).length = 10000 := by rw [List.length_map, List.length_replicate]
  have etk : ((List.replicate 10000 (0 : Int)).map D.int ++ [d]).take 10000 = (List.replicate 10000 (0 : Int)).map D.int := List.take_left' l
  have z := endOf_long (w := w) (ds := (List.replicate 10000 (0 : Int)).map D.int ++ [d]) (by rw [etk, eg]) (by rw [List.length_append, l]; exact Nat.lt_succ_self _)
  unfold toldT
  rw [z]
theorem told_last {w : Web} (ok : OkWeb w) : toldT w (some ((List.replicate 9999 (0 : Int)).map D.int ++ [D.int 99])) = [.str "bad", .bl true, .int 9999] := by
  obtain ⟨e, h⟩ := zeros_good ok 9999 0 (Int.le_refl _) (by have := ok.1; omega)
  have en := h.end ok
  have h12 := (nodeAt_ok ok en.1 en.2).2.1
  have hb : isInt 0 ((nodeAt w e).length - 1) (.int 99) = false := by
    show (decide ((0 : Int) ≤ 99) && decide ((99 : Int) ≤ (nodeAt w e).length - 1)) = false
    rw [decide_eq_false (show ¬ (99 : Int) ≤ (nodeAt w e).length - 1 by omega), Bool.and_false]
  have gb := go_bad (rest := []) h hb
  rw [List.length_replicate] at gb
  have l : ((List.replicate 9999 (0 : Int)).map D.int ++ [D.int 99]).length = 10000 := by rw [List.length_append, List.length_map, List.length_replicate]; rfl
  have etk : ((List.replicate 9999 (0 : Int)).map D.int ++ [D.int 99]).take 10000 = (List.replicate 9999 (0 : Int)).map D.int ++ [D.int 99] := List.take_of_length_le (by rw [l]; exact Nat.le_refl _)
  have z := endOf_bad (w := w) (ds := (List.replicate 9999 (0 : Int)).map D.int ++ [D.int 99]) (j := 9999) (by rw [etk]; exact gb)
  unfold toldT
  rw [z]
  rfl
end Pd

set_option maxHeartbeats 4000000
namespace K02
open PySem PySem.Spec PyProof.Rows L2 Pd
def topS (i : Nat) : Stmt := PySem.Challenge.pw_parlourday_k02_walks_and_where_they_lead.main.body.getD i (.Pass ⟨0, 0, 0, 0⟩)
/-- what the top leaves of the names that are read -/
structure Txt (mg : Str → Option Value) : Prop where
  m_len : mg "len" = none
  m_range : mg "range" = none
  m_isinstance : mg "isinstance" = none
  m_int : mg "int" = none
  m_bool : mg "bool" = none
  m_tuple : mg "tuple" = none
  m_list : mg "list" = none
  m_abs : mg "abs" = none
  m_all : mg "all" = none
  m_max : mg "max" = none
  m_min : mg "min" = none
  m_enumerate : mg "enumerate" = none
  m_sorted : mg "sorted" = none
  m_repr : mg "repr" = none
  g_MOST_NODES : ∃ u, mg "MOST_NODES" = some u ∧ RelV (.int 120) u
  g_MOST_MOVES : ∃ u, mg "MOST_MOVES" = some u ∧ RelV (.int 12) u
  g_MOST_WEIGHT : ∃ u, mg "MOST_WEIGHT" = some u ∧ RelV (.int 1000000) u
  g_MOST_WALK : ∃ u, mg "MOST_WALK" = some u ∧ RelV (.int 10000) u
section
variable {P : Program} {w : World} {K : PySem.W.Frag} {mg : Str → Option Value} {base : Heap} {f : Addr} {fd : FuncData} {k : Nat}
abbrev s__law_hand : Stmt := topS 19
abbrev N__law_hand : List Str := ["_law_script"]
theorem sc__law_hand : FnScope N__law_hand ["_law_script"] (defScope s__law_hand) := ⟨rfl, rfl, rfl, by decide +kernel, rfl, by decide +kernel, by decide +kernel⟩

theorem ok_hand (F : L2.Fun K "_law_hand" "_law_hand" s__law_hand f fd) (T : Txt mg) : FnOk P w K mg base CX0 (k + 1) f fd ["_law_script"] (spHand K) := by
  refine F.ok sc__law_hand (fun vs H Q E h => ?_) (fun cdv A outer s H vs Q E hr h => ?_)
  · obtain ⟨a, ns, rfl, _⟩ := h
    rfl
  · obtain ⟨a, ns, rfl, hS, q⟩ := h
    refine ⟨_, (pss_one (ps_ret (pe_lst (pa_cons (pe_callTy call_list_of (by rfl) T.m_list (by decide +kernel) (pa_cons (pv 0) pa_nil)) (pa_cons pe_int (pa_cons pe_int (pa_cons pe_int (pa_cons pe_int pa_nil)))))))), ?_⟩
    refine ⟨.ref a, rfl, a, _, rfl, .inl hS, fun l hl => ⟨by show 5 ≤ sizeLine; decide, fun p hp => ?_⟩⟩
    have s1 : Same H (upd H l (.lst (ns.map V.int))) := Same.new hl
    have s2 : Same (upd H l (.lst (ns.map V.int))) (upd (upd H l (.lst (ns.map V.int))) p (.lst [.ref l, .int 0, .int 0, .int 0, .int 0])) := Same.new hp
    have hlp : l ≠ p := ne_of_none (upd_same (H := H) (a := l) (o := .lst (ns.map V.int))) hp
    exact q p _ (s1.trans s2) (s1.free hp) ⟨l, ns, 0, 0, 0, 0, upd_same, s2 _ _ upd_same, hlp, by decide, by decide, by decide, by decide⟩
abbrev s__law_draw : Stmt := topS 20
abbrev N__law_draw : List Str := ["_law_hand_here", "_law_size", "_law_value", "_law_cell", "_law_mixed"]
theorem sc__law_draw : FnScope N__law_draw ["_law_hand_here", "_law_size"] (defScope s__law_draw) := ⟨rfl, rfl, rfl, by decide +kernel, rfl, by decide +kernel, by decide +kernel⟩

theorem ok_drawS {b b' : Int} (hb' : b' < 1073741824) (hbb : ∀ n : Int, 1000000 < n → n ≤ b' → n / 1000000 + 1 ≤ b) (F : L2.Fun K "_law_draw" "_law_draw" s__law_draw f fd) (T : Txt mg) (c__law_draw : Fn P w K mg base k "_law_draw" (spDraw b)) : FnOk P w K mg base CX0 (k + 1) f fd ["_law_hand_here", "_law_size"] (spDraw b') := by
  refine F.ok sc__law_draw (fun vs H Q E h => ?_) (fun cdv A outer s H vs Q E hr h => ?_)
  · obtain ⟨a, ns, rfl, _⟩ := h
    rfl
  obtain ⟨hd, n, rfl, ⟨a, ns, i, c, m, kk, e1, e2, ne, i0, c0, m0, m1⟩, n1, n2, q⟩ := h
  refine ⟨_, (pss_cons (ps_if (pt_cmpR op_gt (pe_ix ix_list (pv 0) pe_int (fun _ _ => rfl)) pe_int (nomark _)) (pss_cons (ps_set (i := 2) sc__law_draw.nd rfl (.inl rfl) (pe_op op_mod (pe_callTy call_int1 (by rfl) T.m_int (by decide +kernel) (pa_cons (pe_ix ix_list (pv 0) pe_int (fun _ _ => rfl)) pa_nil)) (pv 1)))
      (pss_cons (ps_asg (pe_op op_fdiv (pe_ix ix_list (pv 0) pe_int (fun _ _ => rfl)) (pv 1)) (pg_sub (pv 0) pe_int set_list))
      (pss_one (ps_ret (pv 2))))) pss_nil)
      (pss_cons (ps_set (i := 3) sc__law_draw.nd rfl (.inl rfl) pe_int)
      (Evl.pss_cut (ps_if (pt_cmpR op_lt (pe_ix ix_list (pv 0) pe_int (fun _ _ => rfl)) (pe_callB call_len_seq (by rfl) T.m_len PySem.boot_len (pa_cons (pe_ix ix_list (pv 0) pe_int (fun _ _ => rfl)) pa_nil)) (nomark _)) (pss_cons (ps_set (i := 3) sc__law_draw.nd rfl (.inl rfl) (pe_ix ix_list (pe_ix ix_list (pv 0) pe_int (fun _ _ => rfl)) (pe_ix ix_list (pv 0) pe_int (fun _ _ => rfl)) (fun _ _ => rfl)))
      (pss_one (ps_asg (pe_op op_add (pe_ix ix_list (pv 0) pe_int (fun _ _ => rfl)) pe_int) (pg_sub (pv 0) pe_int set_list)))) pss_nil)
      (pss_cons (ps_if (pt_cmpR op_ge (pe_callB call_abs (by rfl) T.m_abs (by decide +kernel) (pa_cons (pv 3) pa_nil)) (pe_op op_pow pe_int pe_int) (nomark _)) (pss_cons (ps_asg (pe_op op_fdiv (pe_callB call_abs (by rfl) T.m_abs (by decide +kernel) (pa_cons (pv 3) pa_nil)) (pv 1)) (pg_sub (pv 0) pe_int set_list))
      (pss_one (ps_ret (pe_op op_mod (pe_callTy call_int1 (by rfl) T.m_int (by decide +kernel) (pa_cons (pe_callB call_abs (by rfl) T.m_abs (by decide +kernel) (pa_cons (pv 3) pa_nil)) pa_nil)) (pv 1))))) pss_nil)
      (pss_cons (ps_asg (pe_op op_add (pe_ix ix_list (pv 0) pe_int (fun _ _ => rfl)) pe_int) (pg_sub (pv 0) pe_int set_list))
      (pss_cons (ps_set (i := 4) sc__law_draw.nd rfl (.inl rfl) (pe_op op_mod (pe_callTy call_int1 (by rfl) T.m_int (by decide +kernel) (pa_cons (pe_op op_add (pe_op op_add (pe_op op_add (pe_op op_mul (pe_ix ix_list (pv 0) pe_int (fun _ _ => rfl)) pe_int) (pe_op op_mul (pv 3) pe_int)) (pe_op op_mul (pe_ix ix_list (pv 0) pe_int (fun _ _ => rfl)) pe_int)) pe_int) pa_nil)) pe_int))
      (pss_cons (ps_set (i := 4) sc__law_draw.nd rfl (.inl rfl) (pe_op op_mod (pe_callTy call_int1 (by rfl) T.m_int (by decide +kernel) (pa_cons (pe_op op_add (pe_op op_mul (pe_op op_mod (pe_op op_mul (pv 4) (pv 4)) pe_int) (pv 4)) (pv 3)) pa_nil)) pe_int))
      (pss_cons (ps_asg (pv 4) (pg_sub (pv 0) pe_int set_list))
      (pss_cons (ps_if (pt_cmpR op_gt (pv 1) (pe_op op_pow pe_int pe_int) (nomark _)) (pss_one (ps_ret (pe_op op_mod (pe_callTy call_int1 (by rfl) T.m_int (by decide +kernel) (pa_cons (pe_op op_add (pe_op op_mod (pe_op op_fdiv (pv 4) pe_int) (pe_op op_pow pe_int pe_int)) (pe_op op_mul (pe_op op_pow pe_int pe_int) (pe_f c__law_draw hr (by first | decide | exact Nat.le_refl _ | omega) (by rfl) (pa_cons (pv 0) (pa_cons (pe_op op_add (pe_op op_fdiv (pv 1) (pe_op op_pow pe_int pe_int)) pe_int) pa_nil))))) pa_nil)) (pv 1)))) pss_nil)
      (pss_one (ps_ret (pe_op op_mod (pe_op op_fdiv (pv 4) pe_int) (pv 1))))))))))))), ?_⟩
  have S1 : SqL K H hd [.ref a, .int i, .int c, .int m, .int kk] := SqL.of e1
  have S2 : SqL K H a (ns.map V.int) := SqL.of e2
  refine ⟨.ref hd, rfl, hd, _, 2, _, rfl, rfl, S1, rfl, c, 0, rfl, rfl, _, rfl, ite2 (fun hc => ?_) (fun hc => ?_)⟩
  · -- digits are left
    refine ⟨.ref hd, rfl, hd, _, 2, _, rfl, rfl, S1, rfl, .inl ⟨c, rfl, .int n, rfl, c, n, rfl, rfl, by omega, ?_⟩⟩
    refine ⟨.ref hd, rfl, hd, _, 2, _, rfl, rfl, S1, rfl, .int n, rfl, c, n, rfl, rfl, ⟨by omega, by omega⟩, ?_⟩
    refine ⟨.ref hd, rfl, hd, _, 2, 2, rfl, rfl, e1, rfl, ?_⟩
    refine ⟨.int (c % n), rfl, ?_⟩
    refine q _ _ (hand_put (h := hd) e1 e2 ne i0 (Int.ediv_nonneg c0 (by omega)) m0 m1) (Int.emod_nonneg _ (by omega)) (Int.emod_lt_of_pos _ (by omega))
  · -- a cell is read, or 0
    refine ⟨fun σ H' => ∃ cell i' : Int, σ = [some (.ref hd), some (.int n), none, some (.int cell), none] ∧ H' = upd H hd (.lst [.ref a, .int i', .int c, .int m, .int kk]) ∧ 0 ≤ i', ?_, ?_⟩
    · refine ⟨.ref hd, rfl, hd, _, 1, _, rfl, rfl, S1, rfl, .ref hd, rfl, hd, _, 0, _, rfl, rfl, S1, rfl, a, _, rfl, .inl S2, i, _, rfl, rfl, _, rfl, ite2 (fun hi => ?_) (fun hi => ?_)⟩
      · have hi' : i < ((ns.map V.int).length : Int) := of_decide_eq_true hi
        rw [List.length_map] at hi'
        have hj : i.toNat < ns.length := by omega
        have g : (ns.map V.int)[i.toNat]? = some (.int ns[i.toNat]) := by
          rw [List.getElem?_map, List.getElem?_eq_getElem hj]
          rfl
        have ga : atI (ns.map V.int) i = some (.int ns[i.toNat]) := at_of (j := i.toNat) (by omega) g
        refine ⟨.ref hd, rfl, hd, _, 0, _, rfl, rfl, S1, rfl, .ref hd, rfl, hd, _, 1, _, rfl, rfl, S1, rfl, a, _, i, _, rfl, rfl, S2, ga, ?_⟩
        refine ⟨.ref hd, rfl, hd, _, 1, _, rfl, rfl, S1, rfl, i, 1, rfl, rfl, .ref hd, rfl, hd, _, 1, 1, rfl, rfl, e1, rfl, ?_⟩
        exact ⟨ns[i.toNat], i + 1, rfl, rfl, by omega⟩
      · exact ⟨0, i, rfl, by
          funext b
          by_cases hb : b = hd
          · rw [hb, upd_same, e1]
          · rw [upd_ne hb], i0⟩
    · rintro σ H' ⟨cell, i', rfl, eH, i0'⟩
      have g1 : Go hd H H' := by rw [eH]; exact hand_put e1 e2 ne i0' c0 m0 m1
      have e1' : H' hd = some (.lst [.ref a, .int i', .int c, .int m, .int kk]) := by rw [eH]; exact upd_same
      have e2' : H' a = some (.lst (ns.map V.int)) := g1.fr _ _ ne e2
      refine ⟨.int cell, rfl, cell, rfl, 10, 18, rfl, rfl, ⟨by decide, by decide, by decide⟩, _, _, rfl, rfl, _, rfl, ite2 (fun hb => ?_) (fun hb => ?_)⟩
      · -- a great cell
        have pos : 0 ≤ if cell < 0 then -cell else cell := by split <;> omega
        refine ⟨.int cell, rfl, cell, rfl, .int n, rfl, _, n, rfl, rfl, ⟨by omega, by omega⟩, .ref hd, rfl, hd, _, 2, 2, rfl, rfl, e1', rfl, ?_⟩
        refine ⟨.int cell, rfl, cell, rfl, .inl ⟨_, rfl, .int n, rfl, _, n, rfl, rfl, by omega, ?_⟩⟩
        exact q _ _ (g1.trans (hand_put (h := hd) e1' e2' ne i0' (Int.ediv_nonneg pos (by omega)) m0 m1)) (Int.emod_nonneg _ (by omega)) (Int.emod_lt_of_pos _ (by omega))
      · have small : -(2 ^ 64 : Int) < cell ∧ cell < 2 ^ 64 := by
          have hb' : ¬ ((10 : Int) ^ (18 : Int).toNat ≤ if cell < 0 then -cell else cell) := fun z => hb (decide_eq_true z)
          have e : ((10 : Int) ^ (18 : Int).toNat) = 1000000000000000000 := by decide
          rw [e] at hb'
          split at hb' <;> omega
        refine ⟨.ref hd, rfl, hd, _, 4, _, rfl, rfl, SqL.of e1', rfl, kk, 1, rfl, rfl, .ref hd, rfl, hd, _, 4, 4, rfl, rfl, e1', rfl, ?_⟩
        have e1s : upd H' hd (.lst [.ref a, .int i', .int c, .int m, .int (kk + 1)]) hd = some (.lst [.ref a, .int i', .int c, .int m, .int (kk + 1)]) := upd_same
        refine ⟨.ref hd, rfl, hd, _, 3, _, rfl, rfl, SqL.of e1s, rfl, m, 40014, rfl, rfl, .inr ⟨by decide, by decide⟩, ?_⟩
        refine ⟨.int cell, rfl, cell, 69069, rfl, rfl, .inr ⟨by decide, by decide⟩, _, _, rfl, rfl, ?_⟩
        refine ⟨.ref hd, rfl, hd, _, 4, _, rfl, rfl, SqL.of e1s, rfl, _, 22193, rfl, rfl, .inr ⟨by decide, by decide⟩, _, _, rfl, rfl, _, 7919, rfl, rfl, .inl ⟨_, rfl, _, 2147483563, rfl, rfl, (show (0 : Int) < 2147483563 by decide), ?_⟩⟩
        have hx : 0 ≤ (m * 40014 + cell * 69069 + (kk + 1) * 22193 + 7919) % 2147483563 ∧ (m * 40014 + cell * 69069 + (kk + 1) * 22193 + 7919) % 2147483563 < 2147483563 := ⟨Int.emod_nonneg _ (by decide), Int.emod_lt_of_pos _ (by decide)⟩
        refine ⟨_, rfl, _, rfl, _, _, rfl, rfl, .inl ⟨?_, ?_⟩, _, 2147483399, rfl, rfl, (show (0 : Int) < 2147483399 by decide), _, rfl, _, _, rfl, rfl, .inr ⟨?_, ?_⟩, .int cell, rfl, _, _, rfl, rfl, .inl ⟨_, rfl, _, 2147483399, rfl, rfl, (show (0 : Int) < 2147483399 by decide), ?_⟩⟩
        · exact Int.lt_of_lt_of_le (by decide) hx.1
        · exact Int.lt_trans hx.2 (by decide)
        · exact Int.lt_of_lt_of_le (by decide) hx.1
        · exact Int.lt_trans hx.2 (by decide)
        have p6 : (10 : Int) ^ (6 : Int).toNat = 1000000 := by decide
        have hy := And.intro (Int.emod_nonneg ((m * 40014 + cell * 69069 + (kk + 1) * 22193 + 7919) % 2147483563 * ((m * 40014 + cell * 69069 + (kk + 1) * 22193 + 7919) % 2147483563) % 2147483399 * ((m * 40014 + cell * 69069 + (kk + 1) * 22193 + 7919) % 2147483563) + cell) (show (2147483399 : Int) ≠ 0 by decide))
          (Int.emod_lt_of_pos ((m * 40014 + cell * 69069 + (kk + 1) * 22193 + 7919) % 2147483563 * ((m * 40014 + cell * 69069 + (kk + 1) * 22193 + 7919) % 2147483563) % 2147483399 * ((m * 40014 + cell * 69069 + (kk + 1) * 22193 + 7919) % 2147483563) + cell) (show (0 : Int) < 2147483399 by decide))
        refine ⟨_, rfl, .ref hd, rfl, hd, _, 3, 3, rfl, rfl, e1s, rfl, ?_⟩
        have g3 := g1.trans ((hand_put (h := hd) (k := kk + 1) e1' e2' ne i0' c0 m0 m1).trans (hand_put (h := hd) (k := kk + 1) e1s ((hand_put (h := hd) (k := kk + 1) e1' e2' ne i0' c0 m0 m1).fr _ _ ne e2') ne i0' c0 hy.1 hy.2))
        refine ⟨.int n, rfl, 10, 6, rfl, rfl, ⟨by decide, by decide, by decide⟩, n, _, rfl, rfl, _, rfl, ite2 (fun hs => ?_) (fun hs => ?_)⟩
        · have hs' : (1000000 : Int) < n := by
            have := of_decide_eq_true hs
            rw [p6] at this
            exact this
          refine ⟨_, rfl, _, 32, rfl, rfl, ⟨by decide, by decide⟩, 10, 6, rfl, rfl, ⟨by decide, by decide, by decide⟩, _, _, rfl, rfl, (show (0 : Int) < 10 ^ (6 : Int).toNat by decide), 10, 6, rfl, rfl, ⟨by decide, by decide, by decide⟩,
            .ref hd, rfl, .int n, rfl, 10, 6, rfl, rfl, ⟨by decide, by decide, by decide⟩, n, _, rfl, rfl, ⟨by decide, by decide⟩, _, 1, rfl, rfl, hd, _, rfl, g3.ok ⟨a, ns, i, c, m, kk, e1, e2, ne, i0, c0, m0, m1⟩, ?_, ?_, fun v H'' g v0 v1 => ?_⟩
          · rw [p6]; omega
          · rw [p6]; exact hbb n hs' n2
          · refine ⟨_, v, rfl, rfl, .inl ⟨by decide, by decide⟩, _, _, rfl, rfl, .inl ⟨_, rfl, .int n, rfl, _, n, rfl, rfl, (show (0 : Int) < n by omega), ?_⟩⟩
            exact q _ _ (g3.trans g) (Int.emod_nonneg _ (by omega)) (Int.emod_lt_of_pos _ (by omega))
        · refine ⟨_, rfl, _, 32, rfl, rfl, ⟨by decide, by decide⟩, .int n, rfl, _, n, rfl, rfl, (show (0 : Int) < n by omega), ?_⟩
          exact q _ _ g3 (Int.emod_nonneg _ (by omega)) (Int.emod_lt_of_pos _ (by omega))
theorem ok_draw0 : FnOk P w K mg base CX0 k f fd ["_law_hand_here", "_law_size"] (spDraw 0) :=
  ⟨fun vs H Q E h => by obtain ⟨_, _, rfl, _⟩ := h; rfl, fun A outer s H args us vs Q E _ _ _ _ h => by
    obtain ⟨_, n, _, _, n1, n2, _⟩ := h
    exact absurd (Int.le_trans n1 n2) (by decide)⟩
end
end K02

set_option maxHeartbeats 4000000
namespace K02
open PySem PySem.Spec PyProof.Rows L2 Pd
section
variable {P : Program} {w : World} {K : PySem.W.Frag} {mg : Str → Option Value} {base : Heap} {f : Addr} {fd : FuncData} {k : Nat} {dvs : List V} {kws : List (Str × V)}
abbrev s_is_integer : Stmt := topS 5
abbrev N_is_integer : List Str := ["thing", "low", "high"]
theorem sc_is_integer : FnScope N_is_integer ["thing", "low", "high"] (defScope s_is_integer) := ⟨rfl, rfl, rfl, by decide +kernel, rfl, by decide +kernel, by decide +kernel⟩

theorem ok_is_integer (F : FunD K "is_integer" "is_integer" (defArgs s_is_integer) (defBody s_is_integer) (defScope s_is_integer) dvs kws f fd) (T : Txt mg) : FnOk P w K mg base CX0 (k + 1) f fd ["thing", "low", "high"] (spIsInteger K) := by
  refine F.ok sc_is_integer (fun vs H Q E h => ?_) (fun cdv A outer s H vs Q E hr h => ?_)
  · obtain ⟨v, lo, hi, d, rfl, _⟩ := h
    rfl
  obtain ⟨v, lo, hi, d, rfl, t, q⟩ := h
  refine ⟨_, PSs.nox (pss_cons (ps_if (PW.pt (pw_or (pt_not (pt_val (pe_callB call_isi (by rfl) T.m_isinstance (by decide +kernel) (pa_cons (pv 0) (pa_cons (pe_ty (n := "int") (by rfl) T.m_int (by decide +kernel)) pa_nil))))) (pw_or1 (pt_val (pe_callB call_isi (by rfl) T.m_isinstance (by decide +kernel) (pa_cons (pv 0) (pa_cons (pe_ty (n := "bool") (by rfl) T.m_bool (by decide +kernel)) pa_nil))))))) (pss_one (ps_ret pe_bl)) pss_nil)
      (pss_one (ps_ret (pe_and (pe_or (pe_cmpR op_isN (pv 1) pe_non (nomark _)) (pe_one (pe_cmpR op_le (pv 1) (pv 0) (nomark _)))) (pe_one (pe_or (pe_cmpR op_isN (pv 2) pe_non (nomark _)) (pe_one (pe_cmpR op_le (pv 0) (pv 2) (nomark _))))))))), ?_⟩
  refine ⟨v, rfl, v, .ty _, _, _, _, rfl, .ty _, t.ty, t.kInt, _, rfl, ?_⟩
  cases hn : d.isNum with
  | false =>
    rw [isInt_num hn] at q
    exact iteT (iteT q)
  | true =>
    refine iteF ⟨v, rfl, v, .ty _, _, _, _, rfl, .ty _, t.ty, t.kBool, _, rfl, ?_⟩
    cases hb : d.isBool with
    | true =>
      rw [isInt_bool hb] at q
      exact iteT q
    | false =>
      obtain ⟨i, rfl, rfl⟩ := t.intOf hn hb
      refine iteF ?_
      refine ⟨.int lo, rfl, rfl, false, rfl, iteF ⟨.int lo, rfl, .int i, rfl, lo, i, rfl, rfl, _, rfl, ?_⟩⟩
      have q' : Q (.bl (decide (lo ≤ i) && decide (i ≤ hi))) H := q
      by_cases h1 : lo ≤ i
      · rw [decide_eq_true h1] at q' ⊢
        exact iteT ⟨.int hi, rfl, rfl, false, rfl, iteF ⟨.int i, rfl, .int hi, rfl, i, hi, rfl, rfl, q'⟩⟩
      · rw [decide_eq_false h1] at q' ⊢
        exact iteF q'
abbrev s_is_node : Stmt := topS 11
abbrev N_is_node : List Str := ["thing", "many", "move"]
theorem sc_is_node : FnScope N_is_node ["thing", "many"] (defScope s_is_node) := ⟨rfl, rfl, rfl, by decide +kernel, rfl, by decide +kernel, by decide +kernel⟩

theorem ok_is_node (F : L2.Fun K "is_node" "is_node" s_is_node f fd) (T : Txt mg) (c_is_integer : Fn P w K mg base k "is_integer" (spIsInteger K)) : FnOk P w K mg base CX0 (k + 1) f fd ["thing", "many"] (spIsNode K) := by
  refine F.ok sc_is_node (fun vs H Q E h => ?_) (fun cdv A outer s H vs Q E hr h => ?_)
  · obtain ⟨v, lo, d, rfl, _⟩ := h
    rfl
  obtain ⟨v, many, d, rfl, t, q⟩ := h
  refine ⟨_, (pss_cons (ps_if (PW.pt (pw_or (pt_not (pt_val (pe_callB call_isi (by rfl) T.m_isinstance (by decide +kernel) (pa_cons (pv 0) (pa_cons (pe_ty (n := "tuple") (by rfl) T.m_tuple (by decide +kernel)) pa_nil))))) (pw_or1 (pt_not (pt_chain op_le op_le pe_int (pe_callB call_len_seq (by rfl) T.m_len PySem.boot_len (pa_cons (pv 0) pa_nil)) (pe_gl (by rfl) T.g_MOST_MOVES)))))) (pss_one (ps_ret pe_bl)) pss_nil)
      (pss_cons (ps_for PassesOwn.never rfl (pi_tup (pv 0)) (pg_name (i := 2) sc_is_node.nd rfl (.inl rfl)) (pss_cons (ps_if (PW.pt (pw_or (pt_not (pt_val (pe_callB call_isi (by rfl) T.m_isinstance (by decide +kernel) (pa_cons (pv 2) (pa_cons (pe_ty (n := "tuple") (by rfl) T.m_tuple (by decide +kernel)) pa_nil))))) (pw_or (pt_cmpR op_ne (pe_callB call_len_seq (by rfl) T.m_len PySem.boot_len (pa_cons (pv 2) pa_nil)) pe_int (nomark _)) (pw_or1 (pt_not (pt_val (pe_f c_is_integer hr (by first | decide | exact Nat.le_refl _ | omega) (by rfl) (pa_cons (pe_ix ix_tup (pv 2) pe_int (fun _ _ => rfl)) (pa_cons (pe_un un_neg (pe_gl (by rfl) T.g_MOST_WEIGHT)) (pa_cons (pe_gl (by rfl) T.g_MOST_WEIGHT) pa_nil)))))))))) (pss_one (ps_ret pe_bl)) pss_nil)
      (pss_one (ps_if (pt_not (pt_val (pe_f c_is_integer hr (by first | decide | exact Nat.le_refl _ | omega) (by rfl) (pa_cons (pe_ix ix_tup (pv 2) pe_int (fun _ _ => rfl)) (pa_cons pe_int (pa_cons (pe_op op_sub (pv 1) pe_int) pa_nil)))))) (pss_one (ps_ret pe_bl)) pss_nil))))
      (pss_one (ps_ret pe_bl)))), ?_⟩
  refine ⟨v, rfl, v, .ty _, _, _, _, rfl, .ty _, t.ty, t.kTup, _, rfl, ?_⟩
  cases hn : d.isTup with
  | false =>
    rw [isNode_tup hn] at q
    exact iteT (iteT q)
  | true =>
    obtain ⟨a, xs, ds, rfl, rfl, hS, hs⟩ := t.tupOf hn
    have q' : Q (.bl ((decide ((1 : Int) ≤ ds.length) && decide ((ds.length : Int) ≤ 12)) && ds.all (isMove many))) H := q
    have hl : xs.length = ds.length := hs.len
    refine iteF ⟨.ref a, rfl, a, xs, rfl, .inr hS, 1, _, rfl, rfl, chain_le (fun Q2 h2 => h2) ?_⟩
    rw [hl]
    cases hc : (decide ((1 : Int) ≤ ds.length) && decide ((ds.length : Int) ≤ 12)) with
    | false =>
      rw [hc] at q'
      exact iteT q'
    | true =>
      rw [hc, Bool.true_and] at q'
      refine iteF ⟨.ref a, rfl, a, rfl, ⟨_, hS⟩, for_tup (K := K) (a := a) (xs := xs) (fun i σ H' => (∃ m, σ = [some (.ref a), some (.int many), m]) ∧ H' = H ∧ (ds.take i).all (isMove many) = true)
        ⟨⟨none, rfl⟩, rfl, rfl⟩ (fun i σ H' _ p => by rw [p.2.1]; exact hS) ?_ ?_⟩
      · rintro i x σ H' hx ⟨⟨m, rfl⟩, rfl, ha⟩
        obtain ⟨dx, hdx, tx⟩ := hs.get hx
        have bad : isMove many dx = false → Q (.bl false) H' := fun hb => by rw [all_not hdx hb] at q'; exact q'
        have good : isMove many dx = true → (ds.take (i + 1)).all (isMove many) = true := fun hg => all_take hdx ha hg
        refine ⟨x, rfl, x, .ty _, _, _, _, rfl, .ty _, tx.ty, tx.kTup, _, rfl, ?_⟩
        cases hn2 : dx.isTup with
        | false => exact iteT (iteT (bad (isMove_tup hn2)))
        | true =>
          obtain ⟨b, ys, es, rfl, rfl, hS2, hs2⟩ := tx.tupOf hn2
          refine iteF ⟨.ref b, rfl, b, ys, rfl, .inr hS2, rfl, _, rfl, ?_⟩
          by_cases h2 : es.length = 2
          · obtain ⟨e0, e1, rfl⟩ : ∃ e0 e1, es = [e0, e1] := by
              match es, h2 with
              | [e0, e1], _ => exact ⟨e0, e1, rfl⟩
            cases hs2 with
            | cons t0 hs3 =>
              cases hs3 with
              | cons t1 hs4 =>
                cases hs4
                rename_i v0 v1
                refine iteF ⟨.ref b, rfl, b, _, 0, v0, rfl, rfl, hS2, rfl, 1000000, rfl, v0, -1000000, 1000000, e0, rfl, t0, _, rfl, ?_⟩
                have em : isMove many (.tup [e0, e1]) = (isInt (-1000000) 1000000 e0 && isInt 0 (many - 1) e1) := rfl
                cases hi0 : isInt (-1000000) 1000000 e0 with
                | false =>
                  rw [hi0] at em
                  exact iteT (bad em)
                | true =>
                  rw [hi0, Bool.true_and] at em
                  refine iteF ⟨.ref b, rfl, b, _, 1, v1, rfl, rfl, hS2, rfl, .int many, rfl, many, 1, rfl, rfl, v1, 0, many - 1, e1, rfl, t1, _, rfl, ?_⟩
                  cases hi1 : isInt 0 (many - 1) e1 with
                  | false =>
                    rw [hi1] at em
                    exact iteT (bad em)
                  | true =>
                    rw [hi1] at em
                    exact iteF ⟨⟨_, rfl⟩, rfl, good em⟩
          · have hne : ¬ (V.int (ys.length : Int) = V.int 2) := fun z => by
              have := V.int.inj z
              rw [hs2.len] at this
              omega
            rw [decide_eq_false hne]
            exact iteT (iteT (bad (isMove_len h2)))
      · rintro σ H' ⟨⟨m, rfl⟩, rfl, ha⟩
        rw [hl, List.take_length] at ha
        rw [ha] at q'
        exact q'
end
end K02

set_option maxHeartbeats 4000000
namespace K02
open PySem PySem.Spec PyProof.Rows L2 Pd
theorem small_lt {n : Nat} (h : n ≤ 100000) : n < sizeLine := Nat.lt_of_le_of_lt h (by decide)
section
variable {P : Program} {w : World} {K : PySem.W.Frag} {mg : Str → Option Value} {base : Heap} {f : Addr} {fd : FuncData} {k : Nat} {dvs : List V} {kws : List (Str × V)}
abbrev s_is_web : Stmt := topS 12
abbrev N_is_web : List Str := ["thing", "node"]
theorem sc_is_web : FnScope N_is_web ["thing"] (defScope s_is_web) := ⟨rfl, rfl, rfl, by decide +kernel, rfl, by decide +kernel, by decide +kernel⟩

theorem ok_is_web (F : L2.Fun K "is_web" "is_web" s_is_web f fd) (T : Txt mg) (c_is_node : Fn P w K mg base k "is_node" (spIsNode K)) : FnOk P w K mg base CX0 (k + 1) f fd ["thing"] (spIsWeb K) := by
  refine F.ok sc_is_web (fun vs H Q E h => ?_) (fun cdv A outer s H vs Q E hr h => ?_)
  · obtain ⟨v, d, rfl, _⟩ := h
    rfl
  obtain ⟨v, d, rfl, t, q⟩ := h
  refine ⟨_, (pss_cons (ps_if (PW.pt (pw_or (pt_not (pt_val (pe_callB call_isi (by rfl) T.m_isinstance (by decide +kernel) (pa_cons (pv 0) (pa_cons (pe_ty (n := "tuple") (by rfl) T.m_tuple (by decide +kernel)) pa_nil))))) (pw_or1 (pt_not (pt_chain op_le op_le pe_int (pe_callB call_len_seq (by rfl) T.m_len PySem.boot_len (pa_cons (pv 0) pa_nil)) (pe_gl (by rfl) T.g_MOST_NODES)))))) (pss_one (ps_ret pe_bl)) pss_nil)
      (pss_one (ps_ret (pe_callB (cr_all rfl) (by rfl) T.m_all (by decide +kernel) (pa_cons (pe_lc (own := [("node", 1)]) (g := gName 1)  rfl sc_is_web.nd (pi_tup (pv 0)) (blkOk_by (own := [("node", 1)]) (N := N_is_web) (sc := defScope s_is_web) (by decide +kernel)) (fun _ _ _ _ _ => pg_name (i := 1) sc_is_web.nd rfl (.inl rfl)) (fun _ _ _ _ _ => pts_nil) (fun _ _ _ _ _ => (pe_f c_is_node hr (by first | decide | exact Nat.le_refl _ | omega) (by rfl) (pa_cons (pv 1) (pa_cons (pe_callB (lenK (K := K)) (by rfl) T.m_len PySem.boot_len (pa_cons (pv 0) pa_nil)) pa_nil))))) pa_nil))))), ?_⟩
  refine ⟨v, rfl, v, .ty _, _, _, _, rfl, .ty _, t.ty, t.kTup, _, rfl, ?_⟩
  cases hn : d.isTup with
  | false =>
    rw [isWeb_tup hn] at q
    exact iteT (iteT (q _ (Same.refl _)))
  | true =>
    obtain ⟨a, xs, ds, rfl, rfl, hS, hs⟩ := t.tupOf hn
    have q' : ∀ H', Same H H' → Q (.bl ((decide ((1 : Int) ≤ ds.length) && decide ((ds.length : Int) ≤ 120)) && ds.all (isNode ds.length))) H' := q
    have hl : xs.length = ds.length := hs.len
    refine iteF ⟨.ref a, rfl, a, xs, rfl, .inr hS, 1, _, rfl, rfl, chain_le (fun Q2 h2 => h2) ?_⟩
    rw [hl]
    cases hc : (decide ((1 : Int) ≤ ds.length) && decide ((ds.length : Int) ≤ 120)) with
    | false =>
      rw [hc] at q'
      exact iteT (q' _ (Same.refl _))
    | true =>
      have h120 : (ds.length : Int) ≤ 120 := by
        rw [Bool.and_eq_true] at hc
        exact of_decide_eq_true hc.2
      rw [hc, Bool.true_and] at q'
      refine iteF ⟨.ref a, rfl, a, rfl, ⟨_, hS⟩, fun Dl hD => lc_tup (K := K) (a := a) (xs := xs) (fun i H' => Same H H' ∧ H' Dl = some (.lst ((ds.take i).map fun d => .bl (isNode ds.length d))))
        ⟨Same.new hD, upd_same⟩ (fun i H' _ p => (Le.of p.1).sqT hS) ?_ ?_⟩
      · rintro i x H' hx ⟨sm, hacc⟩
        obtain ⟨dx, hdx, tx⟩ := hs.get hx
        refine ⟨rfl, yes_rd ?_⟩
        refine ⟨x, rfl, .ref a, rfl, a, xs, rfl, .inr ((Le.of sm).sqT hS), x, _, dx, rfl, tx.mono (Le.of sm), _, hacc, ?_, ?_, ?_⟩
        · rw [List.length_map, List.length_take]
          exact small_lt (by omega)
        · intro b o e
          rw [upd_ne (ne_of_none e hD)]
          exact sm b o e
        · rw [upd_same, List.take_add_one, hdx, List.map_append, hl]
          rfl
      · rintro H' ⟨sm, hacc⟩
        rw [hl, List.take_length] at hacc
        have e : (ds.map fun d => V.bl (isNode ds.length d)) = (ds.map (isNode ds.length)).map V.bl := by rw [List.map_map]; rfl
        rw [e] at hacc
        refine ⟨Dl, _, rfl, SqL.of hacc, ?_⟩
        have e2 : (ds.map (isNode ds.length)).all id = ds.all (isNode ds.length) := by rw [List.all_map]; rfl
        rw [e2]
        exact q' _ sm
end
end K02

set_option maxHeartbeats 4000000
namespace K02
open PySem PySem.Spec PyProof.Rows L2 Pd
section
variable {P : Program} {w : World} {K : PySem.W.Frag} {mg : Str → Option Value} {base : Heap} {f : Addr} {fd : FuncData} {k : Nat} {dvs : List V} {kws : List (Str × V)}
theorem sz {n : Nat} (h : n ≤ 100000) : n ≤ sizeLine := Nat.le_of_lt (small_lt h)
abbrev s__law_web : Stmt := topS 21
abbrev N__law_web : List Str := ["_law_hand_here", "_law_most", "_law_many", "_law_size", "_law_found", "_law_node", "_law_moves", "_law_some", "_law_turn"]
theorem sc__law_web : FnScope N__law_web ["_law_hand_here", "_law_most"] (defScope s__law_web) := ⟨rfl, rfl, rfl, by decide +kernel, rfl, by decide +kernel, by decide +kernel⟩

theorem ok_web (F : L2.Fun K "_law_web" "_law_web" s__law_web f fd) (T : Txt mg) (c__law_draw : Fn P w K mg base k "_law_draw" (spDraw 1000000000)) : FnOk P w K mg base CX0 (k + 1) f fd ["_law_hand_here", "_law_most"] (spWeb K) := by
  refine F.ok sc__law_web (fun vs H Q E h => ?_) (fun cdv A outer s H vs Q E hr h => ?_)
  · obtain ⟨v, d, rfl, _⟩ := h
    rfl
  obtain ⟨h, most, rfl, hk, m1, m2, q⟩ := h
  refine ⟨_, (pss_cons (ps_set (i := 2) sc__law_web.nd rfl (.inl rfl) (pe_op op_add pe_int (pe_f c__law_draw hr (by first | decide | exact Nat.le_refl _ | omega) (by rfl) (pa_cons (pv 0) (pa_cons (pv 1) pa_nil)))))
      (pss_cons (ps_set (i := 3) sc__law_web.nd rfl (.inl rfl) (pe_ix ix_list (pe_lst (pa_cons pe_int (pa_cons pe_int (pa_cons pe_int (pa_cons (pe_op op_add (pe_op op_mul pe_int (pe_op op_pow pe_int pe_int)) pe_int) pa_nil))))) (pe_f c__law_draw hr (by first | decide | exact Nat.le_refl _ | omega) (by rfl) (pa_cons (pv 0) (pa_cons pe_int pa_nil))) (fun _ _ => rfl)))
      (pss_cons (ps_set (i := 4) sc__law_web.nd rfl (.inl rfl) (pe_lst pa_nil))
      (pss_cons (ps_for PassesOwn.never rfl (pi_range1 (by rfl) T.m_range (pa_cons (pv 2) pa_nil)) (pg_name (i := 5) sc__law_web.nd rfl (.inl rfl)) (pss_cons (ps_set (i := 6) sc__law_web.nd rfl (.inl rfl) (pe_lst pa_nil))
      (pss_cons (ps_set (i := 7) sc__law_web.nd rfl (.inl rfl) (pe_ix ix_list (pe_lst (pa_cons (pe_op op_add pe_int (pe_f c__law_draw hr (by first | decide | exact Nat.le_refl _ | omega) (by rfl) (pa_cons (pv 0) (pa_cons pe_int pa_nil)))) (pa_cons (pe_op op_add pe_int (pe_f c__law_draw hr (by first | decide | exact Nat.le_refl _ | omega) (by rfl) (pa_cons (pv 0) (pa_cons pe_int pa_nil)))) pa_nil))) (pe_callTy call_int1 (by rfl) T.m_int (by decide +kernel) (pa_cons (pe_cmpR op_eq (pe_f c__law_draw hr (by first | decide | exact Nat.le_refl _ | omega) (by rfl) (pa_cons (pv 0) (pa_cons pe_int pa_nil))) pe_int (nomark _)) pa_nil)) (fun _ _ => rfl)))
      (pss_cons (ps_for PassesOwn.never rfl (pi_range1 (by rfl) T.m_range (pa_cons (pv 7) pa_nil)) (pg_name (i := 8) sc__law_web.nd rfl (.inl rfl)) (pss_one (ps_expr (pe_bm PySem.F.plainAttrs_list PySem.F.slot_list_append PySem.F.type_list_append mt_append (pv 6) (pa_cons (pe_tup (pa_cons (pe_op op_sub (pe_f c__law_draw hr (by first | decide | exact Nat.le_refl _ | omega) (by rfl) (pa_cons (pv 0) (pa_cons (pv 3) pa_nil))) (pe_op op_fdiv (pv 3) pe_int)) (pa_cons (pe_f c__law_draw hr (by first | decide | exact Nat.le_refl _ | omega) (by rfl) (pa_cons (pv 0) (pa_cons (pv 2) pa_nil))) pa_nil))) pa_nil)))))
      (pss_one (ps_expr (pe_bm PySem.F.plainAttrs_list PySem.F.slot_list_append PySem.F.type_list_append mt_append (pv 4) (pa_cons (pe_callTy call_tuple_of (by rfl) T.m_tuple (by decide +kernel) (pa_cons (pv 6) pa_nil)) pa_nil))))))))
      (pss_one (ps_ret (pe_callTy call_tuple_of (by rfl) T.m_tuple (by decide +kernel) (pa_cons (pv 4) pa_nil)))))))), ?_⟩
  have p6 : (10 : Int) ^ (6 : Int).toNat = 1000000 := by decide
  refine ⟨.ref h, rfl, .int most, rfl, h, most, rfl, hk, by omega, by omega, fun v1 H1 g1 a1 b1 => ⟨1, v1, rfl, rfl, ?_⟩⟩
  have k1 := g1.ok hk
  refine ⟨10, 6, rfl, rfl, ⟨by decide, by decide, by decide⟩, 2, _, rfl, rfl, .inl ⟨by decide, by decide⟩, _, 1, rfl, rfl, sz (by decide), fun l hl => ?_⟩
  have g2 := g1.trans (Go.new (h := h) (o := .lst [.int 3, .int 7, .int 7, .int (2 * 10 ^ (6 : Int).toNat + 1)]) hl)
  refine ⟨.ref h, rfl, h, 4, rfl, g2.ok hk, by decide, by decide, fun v2 H3 g3' a3 b3 => ?_⟩
  have g3 := g2.trans g3'
  obtain ⟨xs, hat, hmem⟩ := pick (xs := [V.int 3, .int 7, .int 7, .int (2 * 10 ^ (6 : Int).toNat + 1)]) a3 b3
  have hsz : ∃ sz : Int, xs = .int sz ∧ 3 ≤ sz ∧ sz ≤ 2000001 := by
    rw [p6] at hmem
    simp only [List.mem_cons, List.not_mem_nil, or_false] at hmem
    rcases hmem with rfl | rfl | rfl | rfl
    · exact ⟨3, rfl, by decide, by decide⟩
    · exact ⟨7, rfl, by decide, by decide⟩
    · exact ⟨7, rfl, by decide, by decide⟩
    · exact ⟨2000001, rfl, by decide, by decide⟩
  obtain ⟨size, rfl, s1, s2⟩ := hsz
  have el : H3 l = some (.lst [.int 3, .int 7, .int 7, .int (2 * 10 ^ (6 : Int).toNat + 1)]) := g3'.fr _ _ (k1.ne_new hl) upd_same
  refine ⟨l, _, v2, .int size, rfl, rfl, SqL.of el, hat, ?_⟩
  -- found = []
  refine ⟨Nat.zero_le _, fun fo hfo => ?_⟩
  have nfo : H fo = none := g3.free hk hfo
  have hne : fo ≠ h := hk.ne_new nfo
  have g4 : Go h H (upd H3 fo (.lst [])) := g3.put nfo
  have many1 : 1 ≤ 1 + v1 := by omega
  -- the outer loop
  refine ⟨.int (1 + v1), rfl, 1 + v1, rfl, by omega, by omega, for_range (lo := 0) (n := (1 + v1).toNat) (fun i σ H' => ∃ (wb : Web) (us : List V) (m5 m6 m7 m8 : Option V), σ = [some (.ref h), some (.int most), some (.int (1 + v1)), some (.int size), some (.ref fo), m5, m6, m7, m8] ∧
      Go h H H' ∧ H' fo = some (.lst us) ∧ TpAll K H' us (wb.map nodeD) ∧ wb.length = i ∧ ∀ nd ∈ wb, OkNode (1 + v1) nd)
    ⟨[], [], none, none, none, none, rfl, g4, upd_same, .nil, rfl, fun _ z => by cases z⟩ ?_ ?_⟩
  · rintro i σ H' hi ⟨wb, us, m5, m6, m7, m8, rfl, gA, eus, tus, lw, okw⟩
    -- moves = []
    refine ⟨Nat.zero_le _, fun mo hmo => ?_⟩
    have nmo : H mo = none := gA.free hk hmo
    have mne : mo ≠ h := hk.ne_new nmo
    have mfo : mo ≠ fo := (ne_of_none eus hmo).symm
    have gB : Go h H (upd H' mo (.lst [])) := gA.put nmo
    -- some
    refine ⟨.ref h, rfl, h, 3, rfl, gB.ok hk, by decide, by decide, fun d1 H2 gC' _ _ => ⟨1, d1, rfl, rfl, ?_⟩⟩
    have gC := gB.trans gC'
    refine ⟨.ref h, rfl, h, 9, rfl, gC.ok hk, by decide, by decide, fun d2 H4 gD' _ _ => ⟨4, d2, rfl, rfl, sz (by show 2 ≤ 100000; decide), fun l2 hl2 => ?_⟩⟩
    have gD := gC.trans gD'
    have gE := gD.put (o := .lst [.int (1 + d1), .int (4 + d2)]) (gD.free hk hl2)
    refine ⟨.ref h, rfl, h, 8, rfl, gE.ok hk, by decide, by decide, fun d3 H5 gF' _ _ => ⟨rfl, .inr ⟨_, rfl, ?_⟩⟩⟩
    have gF := gE.trans gF'
    have el2 : H5 l2 = some (.lst [.int (1 + d1), .int (4 + d2)]) := gF'.fr _ _ ((gD.ok hk).ne_new hl2) upd_same
    have hsome : ∃ so : Int, atI [V.int (1 + d1), .int (4 + d2)] (if decide (V.int d3 = V.int 7) = true then 1 else 0) = some (.int so) ∧ 1 ≤ so ∧ so ≤ 12 := by
      split
      · exact ⟨4 + d2, rfl, by omega, by omega⟩
      · exact ⟨1 + d1, rfl, by omega, by omega⟩
    obtain ⟨so, hso, so1, so2⟩ := hsome
    refine ⟨l2, _, _, .int so, rfl, rfl, SqL.of el2, hso, ?_⟩
    have emo : H5 mo = some (.lst []) := by
      refine gF'.fr _ _ mne ?_
      rw [upd_ne (ne_of_none (gD'.fr _ _ mne (gC'.fr _ _ mne upd_same)) hl2)]
      exact gD'.fr _ _ mne (gC'.fr _ _ mne upd_same)
    have keep : ∀ b o, b ≠ h → b ≠ mo → b ≠ l2 → H' b = some o → H5 b = some o := fun b o h1 h2 h3 e => by
      refine gF'.fr _ _ h1 ?_
      rw [upd_ne h3]
      refine gD'.fr _ _ h1 (gC'.fr _ _ h1 ?_)
      rw [upd_ne h2]
      exact e
    have efo : H5 fo = some (.lst us) := keep fo _ hne mfo.symm (ne_of_none (gD'.fr _ _ hne (gC'.fr _ _ hne (by rw [upd_ne mfo.symm]; exact eus))) hl2) eus
    have le5 : Le H' H5 := ((Le.new hmo).trans (gC'.le (gB.ok hk))).trans ((gD'.le (gC.ok hk)).trans ((Le.new hl2).trans (gF'.le (gE.ok hk))))
    -- the inner loop
    refine ⟨.int so, rfl, so, rfl, by omega, by omega, for_range (lo := 0) (n := so.toNat) (fun j σ H' => ∃ (nd : List (Int × Int)) (ys : List V) (m8 : Option V), σ = [some (.ref h), some (.int most), some (.int (1 + v1)), some (.int size), some (.ref fo), some (.int (0 + i)), some (.ref mo), some (.int so), m8] ∧
        Go h H H' ∧ H' fo = some (.lst us) ∧ TpAll K H' us (wb.map nodeD) ∧ H' mo = some (.lst ys) ∧ TpAll K H' ys (nd.map moveD) ∧ nd.length = j ∧ ∀ m ∈ nd, OkMove (1 + v1) m)
      ⟨[], [], m8, rfl, gF, efo, tus.mono le5, emo, .nil, rfl, fun _ z => by cases z⟩ ?_ ?_⟩
    · rintro j σ H6 hj ⟨nd, ys, n8, rfl, gG, efo, tus, emo, tys, ln, okn⟩
      refine ⟨.ref mo, rfl, .inl ⟨rfl, _, SqL.of emo⟩, .ref h, rfl, .int size, rfl, h, size, rfl, gG.ok hk, by omega, by omega, fun x1 H7 gH' xa xb => ?_⟩
      have gH := gG.trans gH'
      refine ⟨.int size, rfl, size, 2, rfl, rfl, ⟨by decide, by decide⟩, x1, _, rfl, rfl, .ref h, rfl, .int (1 + v1), rfl, h, 1 + v1, rfl, gH.ok hk, by omega, by omega, fun x2 H8 gI' ya yb => ?_⟩
      have gI := gH.trans gI'
      refine ⟨sz (by show 2 ≤ 100000; decide), fun tp htp => ?_⟩
      have le8 : Le H6 (upd H8 tp (.tup [.int (x1 - size / 2), .int x2])) := ((gH'.le (gG.ok hk)).trans (gI'.le (gH.ok hk))).trans (Le.new htp)
      have emo8 : upd H8 tp (.tup [.int (x1 - size / 2), .int x2]) mo = some (.lst ys) := by
        rw [upd_ne (ne_of_none (gI'.fr _ _ mne (gH'.fr _ _ mne emo)) htp)]
        exact gI'.fr _ _ mne (gH'.fr _ _ mne emo)
      have lys : ys.length = j := by rw [tys.len, List.length_map, ln]
      refine ⟨mo, ys, _, rfl, rfl, emo8, small_lt (by omega), ?_⟩
      have leM : Le (upd H8 tp (.tup [.int (x1 - size / 2), .int x2])) (upd (upd H8 tp (.tup [.int (x1 - size / 2), .int x2])) mo (.lst (ys ++ [.ref tp]))) := Le.put emo8
      refine ⟨nd ++ [(x1 - size / 2, x2)], ys ++ [.ref tp], _, rfl, (gI.put (gI.free hk htp)).put nmo, ?_, tus.mono (le8.trans leM), upd_same, ?_, by rw [List.length_append, ln]; rfl, ?_⟩
      · rw [upd_ne mfo.symm, upd_ne (ne_of_none (gI'.fr _ _ hne (gH'.fr _ _ hne efo)) htp)]
        exact gI'.fr _ _ hne (gH'.fr _ _ hne efo)
      · rw [List.map_append]
        exact (tys.mono (le8.trans leM)).append (.cons ((Tp.tup (SqT.of upd_same) (.cons (.int _) (.cons (.int _) .nil))).mono leM) .nil)
      · intro m hm
        rw [List.mem_append] at hm
        rcases hm with hm | hm
        · exact okn m hm
        · rw [List.mem_singleton] at hm
          subst hm
          exact ⟨by show -1000000 ≤ x1 - size / 2; omega, by show x1 - size / 2 ≤ 1000000; omega, ya, yb⟩
    · rintro σ H6 ⟨nd, ys, n8, rfl, gG, efo, tus, emo, tys, ln, okn⟩
      refine ⟨.ref fo, rfl, .inl ⟨rfl, _, SqL.of efo⟩, .ref mo, rfl, mo, ys, rfl, .inl ⟨SqL.of emo, fun tp htp => ?_⟩⟩
      have efo8 : upd H6 tp (.tup ys) fo = some (.lst us) := by rw [upd_ne (ne_of_none efo htp)]; exact efo
      have lus : us.length = i := by rw [tus.len, List.length_map, lw]
      refine ⟨fo, us, _, rfl, rfl, efo8, small_lt (by omega), ?_⟩
      have leM : Le (upd H6 tp (.tup ys)) (upd (upd H6 tp (.tup ys)) fo (.lst (us ++ [.ref tp]))) := Le.put efo8
      refine ⟨wb ++ [nd], us ++ [.ref tp], _, _, _, _, rfl, (gG.put (gG.free hk htp)).put nfo, upd_same, ?_, by rw [List.length_append, lw]; rfl, ?_⟩
      · rw [List.map_append]
        exact (tus.mono ((Le.new htp).trans leM)).append (.cons ((Tp.tup (SqT.of upd_same) (tys.mono (Le.new htp))).mono leM) .nil)
      · intro n hn
        rw [List.mem_append] at hn
        rcases hn with hn | hn
        · exact okw n hn
        · rw [List.mem_singleton] at hn
          subst hn
          exact ⟨by omega, by omega, okn⟩
  · rintro σ H' ⟨wb, us, m5, m6, m7, m8, rfl, gA, eus, tus, lw, okw⟩
    refine ⟨.ref fo, rfl, fo, us, rfl, .inl ⟨SqL.of eus, fun tp htp => ?_⟩⟩
    have eN : (1 + v1 : Int) = (wb.length : Int) := by omega
    refine q _ _ wb (gA.put (gA.free hk htp)) (.tup (SqT.of upd_same) (tus.mono (Le.new htp))) ⟨by omega, by omega, ?_⟩ (by omega)
    rw [← eN]
    exact okw
end
end K02

set_option maxHeartbeats 4000000
namespace K02
open PySem PySem.Spec PyProof.Rows L2 Pd
section
variable {P : Program} {w : World} {K : PySem.W.Frag} {mg : Str → Option Value} {base : Heap} {f : Addr} {fd : FuncData} {k : Nat}
def muD (n : Nat) (fo le : Addr) (_ : L2.St) (H : Hp) : Nat := match H fo, H le with
  | some (.dK F), some (.lst S) => 2 * (n - F.length) + S.length
  | _, _ => 0
theorem muD_at {n : Nat} {fo le : Addr} {σ : L2.St} {H : Hp} {F : List (Key × V)} {S : List V} (h1 : H fo = some (.dK F)) (h2 : H le = some (.lst S)) : muD n fo le σ H = 2 * (n - F.length) + S.length := by
  unfold muD
  rw [h1, h2]
abbrev s_met_in : Stmt := topS 16
abbrev N_met_in : List Str := ["moves", "start", "found", "left", "weight", "target"]
theorem sc_met_in : FnScope N_met_in ["moves", "start"] (defScope s_met_in) := ⟨rfl, rfl, rfl, by decide +kernel, rfl, by decide +kernel, by decide +kernel⟩

theorem ok_met_in (F : L2.Fun K "met_in" "met_in" s_met_in f fd) (T : Txt mg) : FnOk P w K mg base CX0 (k + 1) f fd ["moves", "start"] (spMet K) := by
  refine F.ok sc_met_in (fun vs H Q E h => ?_) (fun cdv A outer s H vs Q E hr h => ?_)
  · obtain ⟨v, d, s, rfl, _⟩ := h
    rfl
  obtain ⟨v, wb, s0, rfl, tw, ok, s1, s2, q⟩ := h
  refine ⟨_, (pss_cons (ps_par (i := 2) (j := 3) (by rfl) sc_met_in.nd rfl rfl (by decide) rfl rfl (pa_cons (pe_disp (pps_cons (pv 1) pe_bl pps_nil) (by rfl) (by rfl) (fun z => by cases z) (by decide)) (pa_cons (pe_lst (pa_cons (pv 1) pa_nil)) pa_nil)) (by rfl))
      (pss_cons (ps_while PassesOwn.never (pt_cmpR (op_neD hr.units) (pv 3) (pe_lst pa_nil) (nomark _)) (pss_one (ps_for PassesOwn.never rfl (pi_tup (pe_ix ix_tup (pv 0) (pe_bm0 PySem.F.plainAttrs_list PySem.F.slot_list_pop PySem.F.type_list_pop mt_pop (pv 3)) (fun _ _ => rfl))) (pg_tup rfl (pgs_cons (pg_name (i := 4) sc_met_in.nd rfl (.inl rfl)) (pgs_cons (pg_name (i := 5) sc_met_in.nd rfl (.inl rfl)) pgs_nil))) (pss_one (ps_if (pt_cmp (pc_dnotin (hu_of hr) (pv 5) (pv 2))) (pss_cons (ps_dput (hu_of hr) (pv 2) (pv 5) pe_bl rfl)
      (pss_one (ps_expr (pe_bm PySem.F.plainAttrs_list PySem.F.slot_list_append PySem.F.type_list_append mt_append (pv 3) (pa_cons (pv 5) pa_nil))))) pss_nil)))))
      (pss_one (ps_ret (pe_callB (call_sortD rfl) (by rfl) T.m_sorted (by decide +kernel) (pa_cons (pv 2) pa_nil)))))), ?_⟩
  refine fun fo hfo => ⟨.int s0, rfl, upd_same, [(Sum.inl s0, .bl true)], rfl, (by show 1 ≤ 15; decide), ?_⟩
  rw [upd_upd]
  refine ⟨.int s0, rfl, szl (by show 1 ≤ 100000; decide), fun le hle => ⟨_, _, rfl, ?_⟩⟩
  have hfl : fo ≠ le := ne_of_none (upd_same (H := H) (a := fo) (o := .dK (mergeK [] [(Sum.inl s0, .bl true)]))) hle
  have nle : H le = none := (Same.new hfo).free hle
  refine while_by (fun σ H' => ∃ (F S : List Int) (m4 m5 : Option V), σ = [some v, some (.int s0), some (.ref fo), some (.ref le), m4, m5] ∧ Same H H' ∧ H' fo = some (.dK (dFound F)) ∧ H' le = some (.lst (S.map V.int)) ∧
      FoundOk wb s0 F ∧ S.length ≤ F.length ∧ (∀ t ∈ S, t ∈ F) ∧ ∀ t ∈ F, t ∉ S → ∀ m ∈ nodeAt wb t, m.2 ∈ F) (muD wb.length fo le) ?_ ?_ ?_
  · refine ⟨[s0], [s0], none, none, rfl, (Same.new hfo).trans (Same.new hle), ?_, upd_same, .one, Nat.le_refl _, fun t h => h, fun t h n => absurd h n⟩
    rw [upd_ne hfl, upd_same]
    rfl
  · rintro σ H1 ⟨F, S, m4, m5, rfl, sm, ef, el, fk, hls, hSF, hcl⟩
    refine ⟨.ref le, rfl, Nat.zero_le _, fun p hp => ?_⟩
    have hpl : le ≠ p := ne_of_none el hp
    have hpf : fo ≠ p := ne_of_none ef hp
    refine ⟨.list (S.map PyData.int), .list [], .lst (SqL.of (by rw [upd_ne hpl]; exact el)) (dpInts S), .lst (SqL.of upd_same) .nil, shInts S, by decide, _, rfl, ?_⟩
    have sm1 : Same H (upd H1 p (.lst [])) := sm.trans (Same.new hp)
    have hlen := fk.len ok s1 s2
    by_cases hS : S = []
    · subst hS
      rw [show PyData.eqv (.list (([] : List Int).map PyData.int)) (.list []) = true by decide]
      refine iteF ?_
      refine ⟨.ref fo, rfl, fo, dFound F, F, rfl, .inl (by rw [upd_ne hpf]; exact ef), dFound_keys F, fun ys pp hperm hsort hpp => ?_⟩
      exact q ys pp _ (fk.met (fun t ht => hcl t ht (by simp)) hperm hsort) (sm1.trans (Same.new hpp)) (sm1.free hpp) upd_same
    · obtain ⟨S', t, rfl⟩ : ∃ S' t, S = S' ++ [t] := ⟨S.dropLast, S.getLast hS, (List.dropLast_concat_getLast hS).symm⟩
      have ev : PyData.eqv (.list ((S' ++ [t]).map PyData.int)) (.list []) = false := by
        cases S' with
        | nil => rw [List.nil_append, List.map_cons, PyData.eqv, PyData.eqvAll]
        | cons => rw [List.cons_append, List.map_cons, PyData.eqv, PyData.eqvAll]
      rw [ev]
      refine iteT ?_
      have htF : t ∈ F := hSF t (by simp)
      obtain ⟨t0, t1⟩ := (fk.re t htF).inside ok s1 s2
      have el1 : upd H1 p (.lst []) le = some (.lst ((S' ++ [t]).map V.int)) := by rw [upd_ne hpl]; exact el
      have eS : ((S' ++ [t]).map V.int).dropLast = S'.map V.int := by rw [List.map_append, List.map_cons, List.map_nil, List.dropLast_concat]
      have sm2 : Same H (upd (upd H1 p (.lst [])) le (.lst (S'.map V.int))) := fun b o e => by
        rw [upd_ne (ne_of_none e nle)]
        exact sm1 b o e
      obtain ⟨a, xs, b, ys, rfl, hS1, hat, hT, ht⟩ := (tw.mono (Le.of sm2)).nodeIx t0 t1
      refine ⟨.ref a, rfl, .ref le, rfl, .inl ⟨rfl, _, SqL.of el1⟩, le, _, .int t, rfl, rfl, el1, ?_, ?_⟩
      · rw [List.map_append, List.length_append]
        simp
      rw [eS]
      refine ⟨a, xs, t, .ref b, rfl, rfl, hS1, hat, b, rfl, ⟨_, hT⟩, ?_⟩
      refine for_tup (K := K) (a := b) (xs := ys) (fun i σ H' => ∃ (F1 S1 : List Int) (m4 m5 : Option V), σ = [some (.ref a), some (.int s0), some (.ref fo), some (.ref le), m4, m5] ∧ Same H H' ∧ SqT K H' b ys ∧ TpAll K H' ys ((nodeAt wb t).map moveD) ∧ H' fo = some (.dK (dFound F1)) ∧ H' le = some (.lst (S1.map V.int)) ∧
        FoundOk wb s0 F1 ∧ t ∈ F1 ∧ (∀ u ∈ S1, u ∈ F1) ∧ (∀ u ∈ F1, u ∉ S1 → u ≠ t → ∀ m ∈ nodeAt wb u, m.2 ∈ F1) ∧ (∀ m ∈ (nodeAt wb t).take i, m.2 ∈ F1) ∧ F1.length ≤ wb.length ∧ S1.length ≤ F1.length ∧ 2 * (wb.length - F1.length) + S1.length < 2 * (wb.length - F.length) + (S' ++ [t]).length) ?_ ?_ ?_ ?_
      · refine ⟨F, S', m4, m5, rfl, sm2, hT, ht, ?_, upd_same, fk, htF, fun u hu => hSF u (List.mem_append_left _ hu), fun u hu hn hne => hcl u hu ?_, fun m hm => by simp at hm, hlen, by rw [List.length_append] at hls; omega, by simp⟩
        · rw [upd_ne hfl, upd_ne hpf]; exact ef
        · simp [hn, hne]
      · rintro i σ H2 _ ⟨F1, S1, m4, m5, rfl, sm3, hT3, _⟩
        exact hT3
      · rintro i x σ H2 hx ⟨F1, S1, n4, n5, rfl, sm3, hT3, ht3, ef3, el3, fk3, htF3, hSF3, hcl3, hdone, hl3, hl5, hmu⟩
        obtain ⟨m, c, hm, rfl, hc⟩ := ht3.moveIx hx
        have hmm : m ∈ nodeAt wb t := List.mem_of_getElem? hm
        refine ⟨c, _, rfl, hc, rfl, _, _, rfl, _, _, rfl, rfl, .int m.2, rfl, .ref fo, rfl, fo, _, rfl, DGet.k (k := Sum.inl m.2) ef3, _, rfl, ?_⟩
        rw [dFound_get]
        by_cases hin : m.2 ∈ F1
        · rw [decide_eq_true hin]
          refine iteF ⟨F1, S1, _, _, rfl, sm3, hT3, ht3, ef3, el3, fk3, htF3, hSF3, hcl3, fun m' hm' => ?_, hl3, hl5, hmu⟩
          rw [List.take_add_one, hm, List.mem_append] at hm'
          rcases hm' with z | z
          · exact hdone m' z
          · have : m' = m := by simpa using z
            subst this
            exact hin
        · rw [decide_eq_false hin]
          have fk4 := fk3.add htF3 hmm hin
          have hl4 := fk4.len ok s1 s2
          refine iteT ⟨.ref fo, rfl, .int m.2, rfl, fo, _, rfl, DPut.k (k := Sum.inl m.2) ef3 ?_, ?_⟩
          · unfold dFound
            rw [List.length_map]
            exact small_lt (by have := ok.2.1; omega)
          rw [dFound_put hin]
          have el4 : upd H2 fo (.dK (dFound (F1 ++ [m.2]))) le = some (.lst (S1.map V.int)) := by rw [upd_ne hfl.symm]; exact el3
          refine ⟨.ref le, rfl, .inl ⟨rfl, _, SqL.of el4⟩, .int m.2, rfl, le, _, _, rfl, rfl, el4, small_lt ?_, ?_⟩
          · rw [List.length_map]
            have := ok.2.1
            omega
          have sm4 : Same H (upd (upd H2 fo (.dK (dFound (F1 ++ [m.2])))) le (.lst (S1.map V.int ++ [.int m.2]))) := fun b o e => by
            rw [upd_ne (ne_of_none e nle), upd_ne (ne_of_none e hfo)]
            exact sm3 b o e
          have l4 : Le H2 (upd (upd H2 fo (.dK (dFound (F1 ++ [m.2])))) le (.lst (S1.map V.int ++ [.int m.2]))) := (Le.putD ef3).trans (Le.put el4)
          refine ⟨F1 ++ [m.2], S1 ++ [m.2], _, _, rfl, sm4, l4.sqT hT3, ht3.mono l4, ?_, ?_, fk4, List.mem_append_left _ htF3, ?_, ?_, ?_, hl4, ?_, ?_⟩
          · rw [upd_ne hfl, upd_same]
          · rw [upd_same, List.map_append]; rfl
          · intro u hu
            rw [List.mem_append] at hu ⊢
            rcases hu with hu | hu
            · exact .inl (hSF3 u hu)
            · exact .inr hu
          · intro u hu hn hne m' hm'
            rw [List.mem_append] at hu hn
            rcases hu with hu | hu
            · exact List.mem_append_left _ (hcl3 u hu (fun z => hn (.inl z)) hne m' hm')
            · exact absurd (.inr hu) hn
          · intro m' hm'
            rw [List.take_add_one, hm, List.mem_append] at hm'
            rcases hm' with z | z
            · exact List.mem_append_left _ (hdone m' z)
            · have : m' = m := by simpa using z
              subst this
              simp
          · simp only [List.length_append, List.length_cons, List.length_nil]
            omega
          · simp only [List.length_append, List.length_cons, List.length_nil] at hl4 hmu ⊢
            omega
      · rintro σ H2 ⟨F1, S1, n4, n5, rfl, sm3, hT3, ht3, ef3, el3, fk3, htF3, hSF3, hcl3, hdone, hl3, hl5, hmu⟩
        refine ⟨⟨F1, S1, _, _, rfl, sm3, ef3, el3, fk3, hl5, hSF3, fun u hu hn => ?_⟩, ?_⟩
        · by_cases hne : u = t
          · subst hne
            rw [ht3.len, List.length_map, List.take_length] at hdone
            exact hdone
          · exact hcl3 u hu hn hne
        · rw [muD_at ef3 el3, muD_at ef el]
          unfold dFound
          rw [List.length_map, List.length_map, List.length_map, List.length_map]
          exact hmu
  · intro σ H1 Q1 Q2 hq h
    obtain ⟨x, e, hz, h⟩ := h
    refine ⟨x, e, hz, fun p hp => ?_⟩
    obtain ⟨d, e', h1, h2, h3, h4, b, hb, qq⟩ := h p hp
    exact ⟨d, e', h1, h2, h3, h4, b, hb, hq _ _ qq⟩
end
end K02

set_option maxHeartbeats 4000000
namespace K02
open PySem PySem.Spec PyProof.Rows L2 Pd
theorem inV_ints (F : List Int) (t : Int) : inV (.int t) (F.map V.int) = decide (t ∈ F) := by
  unfold inV
  induction F with
  | nil => rfl
  | cons a F ih =>
    rw [List.map_cons, List.any_cons, ih]
    show (a == t || decide (t ∈ F)) = _
    by_cases h : a = t
    · subst h; simp
    · have h' : t ≠ a := fun z => h z.symm
      simp [h, h']
theorem flat_ints (F : List Int) : (F.map V.int).all flatV = true := by
  rw [List.all_eq_true]
  intro x hx
  obtain ⟨a, _, rfl⟩ := List.mem_map.mp hx
  rfl
section
variable {P : Program} {w : World} {K : PySem.W.Frag} {mg : Str → Option Value} {base : Heap} {f : Addr} {fd : FuncData} {k : Nat}
def muB (n : Nat) (σ : L2.St) (_ : Hp) : Nat := match (σ[3]? : Option (Option V)) with
  | some (some (V.int i)) => n - i.toNat
  | _ => 0
abbrev s__law_met : Stmt := topS 22
abbrev N__law_met : List Str := ["_law_net", "_law_start", "_law_found", "_law_at", "_law_weight", "_law_target"]
theorem sc__law_met : FnScope N__law_met ["_law_net", "_law_start"] (defScope s__law_met) := ⟨rfl, rfl, rfl, by decide +kernel, rfl, by decide +kernel, by decide +kernel⟩

theorem ok_law_met (F : L2.Fun K "_law_met" "_law_met" s__law_met f fd) (T : Txt mg) : FnOk P w K mg base CX0 (k + 1) f fd ["_law_net", "_law_start"] (spMet K) := by
  refine F.ok sc__law_met (fun vs H Q E h => ?_) (fun cdv A outer s H vs Q E hr h => ?_)
  · obtain ⟨v, d, s, rfl, _⟩ := h
    rfl
  obtain ⟨v, wb, s0, rfl, tw, ok, s1, s2, q⟩ := h
  refine ⟨_, (pss_cons (ps_par (i := 2) (j := 3) (by rfl) sc__law_met.nd rfl rfl (by decide) rfl rfl (pa_cons (pe_lst (pa_cons (pv 1) pa_nil)) (pa_cons pe_int pa_nil)) (by rfl))
      (pss_cons (ps_while PassesOwn.never (pt_cmpR op_lt (pv 3) (pe_callB call_len_seq (by rfl) T.m_len PySem.boot_len (pa_cons (pv 2) pa_nil)) (nomark _)) (pss_cons (ps_for PassesOwn.never rfl (pi_tup (pe_ix ix_tup (pv 0) (pe_ix ix_list (pv 2) (pv 3) (fun _ _ => rfl)) (fun _ _ => rfl))) (pg_tup rfl (pgs_cons (pg_name (i := 4) sc__law_met.nd rfl (.inl rfl)) (pgs_cons (pg_name (i := 5) sc__law_met.nd rfl (.inl rfl)) pgs_nil))) (pss_one (ps_if (pt_cmpR op_notIn_seq (pv 5) (pv 2) (by rfl)) (pss_one (ps_expr (pe_bm PySem.F.plainAttrs_list PySem.F.slot_list_append PySem.F.type_list_append mt_append (pv 2) (pa_cons (pv 5) pa_nil)))) pss_nil)))
      (pss_one (ps_set (i := 3) sc__law_met.nd rfl (.inl rfl) (pe_op op_add (pv 3) pe_int)))))
      (pss_one (ps_ret (pe_callB cr_sortedI (by rfl) T.m_sorted (by decide +kernel) (pa_cons (pv 2) pa_nil)))))), ?_⟩
  refine ⟨.int s0, rfl, szl (by show 1 ≤ 100000; decide), fun fo hfo => ⟨_, _, rfl, ?_⟩⟩
  refine while_by (fun σ H' => ∃ (F : List Int) (i : Nat) (m4 m5 : Option V), σ = [some v, some (.int s0), some (.ref fo), some (.int i), m4, m5] ∧ Same H H' ∧ H' fo = some (.lst (F.map V.int)) ∧
      FoundOk wb s0 F ∧ i ≤ F.length ∧ ∀ t ∈ F.take i, ∀ m ∈ nodeAt wb t, m.2 ∈ F) (muB wb.length) ?_ ?_ ?_
  · exact ⟨[s0], 0, none, none, rfl, Same.new hfo, upd_same, .one, Nat.zero_le _, fun t h => by simp at h⟩
  · rintro σ H1 ⟨F, i, m4, m5, rfl, sm, ef, fk, hi, hcl⟩
    have hlen := fk.len ok s1 s2
    refine ⟨.int i, rfl, .ref fo, rfl, fo, _, rfl, .inl (SqL.of ef), i, _, rfl, rfl, _, rfl, ?_⟩
    rw [List.length_map]
    by_cases hlt : i < F.length
    · rw [decide_eq_true (show (i : Int) < F.length by omega)]
      refine iteT ?_
      have hF : F[i]? = some F[i] := List.getElem?_eq_getElem hlt
      have htF : F[i] ∈ F := List.getElem_mem hlt
      generalize F[i] = t at hF htF
      obtain ⟨t0, t1⟩ := (fk.re t htF).inside ok s1 s2
      obtain ⟨a, xs, b, ys, rfl, hS1, hat, hT, ht⟩ := (tw.mono (Le.of sm)).nodeIx t0 t1
      have hatF : atI (F.map V.int) (i : Int) = some (.int t) := at_of (j := i) (by omega) (by rw [List.getElem?_map, hF]; rfl)
      refine ⟨.ref a, rfl, .ref fo, rfl, .int i, rfl, fo, _, i, _, rfl, rfl, SqL.of ef, hatF, a, xs, t, .ref b, rfl, rfl, hS1, hat, b, rfl, ⟨_, hT⟩, ?_⟩
      refine for_tup (K := K) (a := b) (xs := ys) (fun j σ H' => ∃ (G : List Int) (m4 m5 : Option V), σ = [some (.ref a), some (.int s0), some (.ref fo), some (.int i), m4, m5] ∧ Same H H' ∧ SqT K H' b ys ∧ TpAll K H' ys ((nodeAt wb t).map moveD) ∧ H' fo = some (.lst ((F ++ G).map V.int)) ∧
        FoundOk wb s0 (F ++ G) ∧ (∀ m ∈ (nodeAt wb t).take j, m.2 ∈ F ++ G)) ?_ ?_ ?_ ?_
      · exact ⟨[], m4, m5, rfl, sm, hT, ht, by rw [List.append_nil]; exact ef, by rw [List.append_nil]; exact fk, fun m hm => by simp at hm⟩
      · rintro j σ H2 _ ⟨G, m4, m5, rfl, sm3, hT3, _⟩
        exact hT3
      · rintro j x σ H2 hx ⟨G, n4, n5, rfl, sm3, hT3, ht3, ef3, fk3, hdone⟩
        obtain ⟨m, c, hm, rfl, hc⟩ := ht3.moveIx hx
        have hmm : m ∈ nodeAt wb t := List.mem_of_getElem? hm
        refine ⟨c, _, rfl, hc, rfl, _, _, rfl, _, _, rfl, rfl, .int m.2, rfl, .ref fo, rfl, fo, _, rfl, .inl (SqL.of ef3), rfl, flat_ints _, _, rfl, ?_⟩
        rw [inV_ints]
        by_cases hin : m.2 ∈ F ++ G
        · rw [decide_eq_true hin]
          refine iteF ⟨G, _, _, rfl, sm3, hT3, ht3, ef3, fk3, fun m' hm' => ?_⟩
          rw [List.take_add_one, hm, List.mem_append] at hm'
          rcases hm' with z | z
          · exact hdone m' z
          · have : m' = m := by simpa using z
            subst this
            exact hin
        · rw [decide_eq_false hin]
          have fk4 := fk3.add (List.mem_append_left _ htF) hmm hin
          have hl4 := fk3.len ok s1 s2
          refine iteT ⟨.ref fo, rfl, .inl ⟨rfl, _, SqL.of ef3⟩, .int m.2, rfl, fo, _, _, rfl, rfl, ef3, small_lt ?_, ?_⟩
          · rw [List.length_map]
            have := ok.2.1
            omega
          have sm4 : Same H (upd H2 fo (.lst ((F ++ G).map V.int ++ [.int m.2]))) := fun b o e => by
            rw [upd_ne (ne_of_none e hfo)]
            exact sm3 b o e
          have l4 : Le H2 (upd H2 fo (.lst ((F ++ G).map V.int ++ [.int m.2]))) := Le.put ef3
          rw [List.append_assoc] at fk4
          refine ⟨G ++ [m.2], _, _, rfl, sm4, l4.sqT hT3, ht3.mono l4, ?_, fk4, ?_⟩
          · rw [upd_same, ← List.append_assoc, List.map_append (l₂ := [m.2])]; rfl
          · intro m' hm'
            rw [← List.append_assoc]
            rw [List.take_add_one, hm, List.mem_append] at hm'
            rcases hm' with z | z
            · exact List.mem_append_left _ (hdone m' z)
            · have : m' = m := by simpa using z
              subst this
              simp
      · rintro σ H2 ⟨G, n4, n5, rfl, sm3, hT3, ht3, ef3, fk3, hdone⟩
        refine ⟨.int i, rfl, i, 1, rfl, rfl, ⟨F ++ G, i + 1, _, _, rfl, sm3, ef3, fk3, by rw [List.length_append]; omega, fun u hu => ?_⟩, ?_⟩
        · rw [List.take_append_of_le_length (by omega), List.take_add_one, hF, List.mem_append] at hu
          rcases hu with hu | hu
          · exact fun m hm => List.mem_append_left _ (hcl u hu m hm)
          · have : u = t := by simpa using hu
            subst this
            rw [ht3.len, List.length_map, List.take_length] at hdone
            exact hdone
        · show wb.length - ((i : Int) + 1).toNat < wb.length - (i : Int).toNat
          omega
    · rw [decide_eq_false (show ¬ (i : Int) < F.length by omega)]
      have hiF : i = F.length := by omega
      subst hiF
      rw [List.take_length] at hcl
      refine iteF ⟨.ref fo, rfl, fo, F, rfl, SqL.of ef, fun ys pp hperm hsort hpp => ?_⟩
      exact q ys pp _ (fk.met hcl hperm hsort) (sm.trans (Same.new hpp)) (sm.free hpp) upd_same
  · intro σ H1 Q1 Q2 hq h
    obtain ⟨x, e, y, e2, p, xs, e3, h1, i, j, e4, e5, b, hb, qq⟩ := h
    exact ⟨x, e, y, e2, p, xs, e3, h1, i, j, e4, e5, b, hb, hq _ _ qq⟩
end
end K02

set_option maxHeartbeats 4000000
namespace K02
open PySem PySem.Spec PyProof.Rows L2 Pd
section
variable {P : Program} {w : World} {K : PySem.W.Frag} {mg : Str → Option Value} {base : Heap} {f : Addr} {fd : FuncData} {k : Nat}
abbrev s_need_web : Stmt := topS 13
abbrev N_need_web : List Str := ["thing"]
theorem sc_need_web : FnScope N_need_web ["thing"] (defScope s_need_web) := ⟨rfl, rfl, rfl, by decide +kernel, rfl, by decide +kernel, by decide +kernel⟩

theorem ok_need_web (F : L2.Fun K "need_web" "need_web" s_need_web f fd) (T : Txt mg) (c_is_web : Fn P w K mg base k "is_web" (spIsWeb K)) : FnOk P w K mg base CX0 (k + 1) f fd ["thing"] (spNeed K) := by
  refine F.ok sc_need_web (fun vs H Q E h => ?_) (fun cdv A outer s H vs Q E hr h => ?_)
  · obtain ⟨v, d, rfl, _⟩ := h
    rfl
  obtain ⟨v, wb, rfl, tw, ok, q⟩ := h
  refine ⟨_, (pss_one (ps_if (pt_not (pt_val (pe_f c_is_web hr (by first | decide | exact Nat.le_refl _ | omega) (by rfl) (pa_cons (pv 0) pa_nil)))) (pss_one ps_never) pss_nil)), ?_⟩
  refine ⟨v, rfl, v, _, rfl, tw, fun H1 s1 => ⟨_, rfl, ?_⟩⟩
  rw [isWeb_ok ok]
  exact iteF (q _ s1)
abbrev s_nodes_met : Stmt := topS 17
abbrev N_nodes_met : List Str := ["web"]
theorem sc_nodes_met : FnScope N_nodes_met ["web"] (defScope s_nodes_met) := ⟨rfl, rfl, rfl, by decide +kernel, rfl, by decide +kernel, by decide +kernel⟩

theorem ok_nodes_met (F : L2.Fun K "nodes_met" "nodes_met" s_nodes_met f fd) (T : Txt mg) (c_need_web : Fn P w K mg base k "need_web" (spNeed K)) (c_met_in : Fn P w K mg base k "met_in" (spMet K)) : FnOk P w K mg base CX0 (k + 1) f fd ["web"] (spNodes K) := by
  refine F.ok sc_nodes_met (fun vs H Q E h => ?_) (fun cdv A outer s H vs Q E hr h => ?_)
  · obtain ⟨v, d, rfl, _⟩ := h
    rfl
  obtain ⟨v, wb, rfl, tw, ok, q⟩ := h
  refine ⟨_, (pss_cons (ps_expr (pe_f c_need_web hr (by first | decide | exact Nat.le_refl _ | omega) (by rfl) (pa_cons (pv 0) pa_nil)))
      (pss_one (ps_ret (pe_f c_met_in hr (by first | decide | exact Nat.le_refl _ | omega) (by rfl) (pa_cons (pv 0) (pa_cons pe_int pa_nil)))))), ?_⟩
  refine ⟨v, rfl, v, wb, rfl, tw, ok, fun H1 s1 => ⟨v, rfl, v, wb, 0, rfl, tw.mono (Le.of s1), ok, Int.le_refl _, ?_, fun ys p H2 hm s2 hp e => q ys p H2 hm (s1.trans s2) (s1.free hp) e⟩⟩
  have := ok.1
  omega
abbrev s_walked : Stmt := topS 14
abbrev N_walked : List Str := ["moves", "walk", "node", "total", "place", "index", "weight"]
theorem sc_walked : FnScope N_walked ["moves", "walk"] (defScope s_walked) := ⟨rfl, rfl, rfl, by decide +kernel, rfl, by decide +kernel, by decide +kernel⟩

theorem ok_walked (F : L2.Fun K "walked" "walked" s_walked f fd) (T : Txt mg) (c_is_integer : Fn P w K mg base k "is_integer" (spIsInteger K)) : FnOk P w K mg base CX0 (k + 1) f fd ["moves", "walk"] (spWalked K) := by
  refine F.ok sc_walked (fun vs H Q E h => ?_) (fun cdv A outer s H vs Q E hr h => ?_)
  · obtain ⟨v, a, wb, xs, ds, rfl, _⟩ := h
    rfl
  obtain ⟨v, a, wb, xs, ds, rfl, tw, ok, hS, hs, q⟩ := h
  refine ⟨_, (pss_cons (ps_asg (pe_tup (pa_cons pe_int (pa_cons pe_int pa_nil))) (pg_tup rfl (pgs_cons (pg_name (i := 2) sc_walked.nd rfl (.inl rfl)) (pgs_cons (pg_name (i := 3) sc_walked.nd rfl (.inl rfl)) pgs_nil))))
      (pss_cons (ps_for PassesOwn.never rfl (pi_enum (by rfl) T.m_enumerate (pa_cons (pv 1) pa_nil)) (pg_tup rfl (pgs_cons (pg_name (i := 4) sc_walked.nd rfl (.inl rfl)) (pgs_cons (pg_name (i := 5) sc_walked.nd rfl (.inl rfl)) pgs_nil))) (pss_cons (ps_if (pt_not (pt_val (pe_f c_is_integer hr (by first | decide | exact Nat.le_refl _ | omega) (by rfl) (pa_cons (pv 5) (pa_cons pe_int (pa_cons (pe_op op_sub (pe_callB call_len_seq (by rfl) T.m_len PySem.boot_len (pa_cons (pe_ix ix_tup (pv 0) (pv 2) (fun _ _ => rfl)) pa_nil)) pe_int) pa_nil)))))) (pss_one (ps_ret (pe_tup (pa_cons (pv 2) (pa_cons (pv 3) (pa_cons (pv 4) pa_nil)))))) pss_nil)
      (pss_cons (ps_asg (pe_ix ix_tup (pe_ix ix_tup (pv 0) (pv 2) (fun _ _ => rfl)) (pv 5) (fun _ _ => rfl)) (pg_tup rfl (pgs_cons (pg_name (i := 6) sc_walked.nd rfl (.inl rfl)) (pgs_cons (pg_name (i := 2) sc_walked.nd rfl (.inl rfl)) pgs_nil))))
      (pss_one (ps_aug (i := 3) sc_walked.nd rfl (.inl rfl) (pv 6) ip_add)))))
      (pss_one (ps_ret (pe_tup (pa_cons (pv 2) (pa_cons (pv 3) (pa_cons pe_non pa_nil)))))))), ?_⟩
  have w1 := ok.1
  refine ⟨szl (by show 2 ≤ 100000; decide), fun p0 hp0 => ⟨p0, _, rfl, SqT.of upd_same, rfl, _, _, rfl, _, _, rfl, rfl, .ref a, rfl, a, xs, rfl, (Same.new hp0).seq hS, for_enum (K := K) (a := a) (xs := xs) (fun i σ H' => ∃ (n t : Int) (m4 m5 m6 : Option V), σ = [some v, some (.ref a), some (.int n), some (.int t), m4, m5, m6] ∧ Same H H' ∧ 0 ≤ n ∧ n < wb.length ∧ go wb ds 0 0 0 = go wb (ds.drop i) n t i)
    ⟨0, 0, none, none, none, rfl, Same.new hp0, Int.le_refl _, by omega, rfl⟩ (fun i σ H' _ p => by obtain ⟨_, _, _, _, _, _, s', _⟩ := p; exact s'.seq hS) ?_ ?_⟩⟩
  · rintro i x σ H1 tp hx ⟨n, t, m4, m5, m6, rfl, sm, n0, n1, eg⟩ htp
    obtain ⟨d, hd, tx⟩ := hs.get hx
    have sm1 : Same H (upd H1 tp (.tup [.int (i : Nat), x])) := sm.trans (Same.new htp)
    obtain ⟨aw, xw, b, ys, rfl, hS1, hat, hT, ht⟩ := (tw.mono (Le.of sm1)).nodeIx n0 n1
    have hl : ys.length = (nodeAt wb n).length := by rw [ht.len, List.length_map]
    refine ⟨tp, _, rfl, SqT.of upd_same, rfl, _, _, rfl, _, _, rfl, rfl, ?_⟩
    refine ⟨x, rfl, .ref aw, rfl, .int n, rfl, aw, xw, n, .ref b, rfl, rfl, hS1, hat, b, ys, rfl, .inr hT, _, 1, rfl, rfl, x, 0, _, d, rfl, tx.mono (Le.of sm1), _, rfl, ?_⟩
    rw [hl]
    rw [go_step hd] at eg
    cases hi : isInt 0 ((nodeAt wb n).length - 1) d with
    | false =>
      rw [hi, if_neg Bool.false_ne_true] at eg
      refine iteT ⟨.int n, rfl, .int t, rfl, .int i, rfl, szl (by show 3 ≤ 100000; decide), fun p hp => q p _ (sm1.trans (Same.new hp)) (sm1.free hp) ?_⟩
      rw [eg, upd_same]
      rfl
    | true =>
      obtain ⟨ix, rfl⟩ := isInt_of hi
      cases tx
      obtain ⟨c, hatc, hc⟩ := step_at ht hi
      have so := step_ok ok n0 n1 hi
      rw [hi, if_pos rfl] at eg
      refine iteF ⟨.ref aw, rfl, .int n, rfl, aw, xw, n, .ref b, rfl, rfl, hS1, hat, .int ix, rfl, b, ys, ix, .ref c, rfl, rfl, hT, hatc, c, _, rfl, hc, rfl, _, _, rfl, _, _, rfl, rfl, .int t, rfl, _, rfl, t, _, rfl, rfl, ?_⟩
      exact ⟨_, _, _, _, _, rfl, sm1, so.1, so.2, eg⟩
  · rintro σ H1 ⟨n, t, m4, m5, m6, rfl, sm, n0, n1, eg⟩
    rw [hs.len, List.drop_length] at eg
    refine ⟨.int n, rfl, .int t, rfl, szl (by show 3 ≤ 100000; decide), fun p hp => q p _ (sm.trans (Same.new hp)) (sm.free hp) ?_⟩
    rw [eg, upd_same]
    rfl
abbrev s__law_sum : Stmt := topS 24
abbrev N__law_sum : List Str := ["_law_net", "_law_path", "_law_node", "_law_total", "_law_index"]
theorem sc__law_sum : FnScope N__law_sum ["_law_net", "_law_path"] (defScope s__law_sum) := ⟨rfl, rfl, rfl, by decide +kernel, rfl, by decide +kernel, by decide +kernel⟩

theorem ok_law_sum (F : L2.Fun K "_law_sum" "_law_sum" s__law_sum f fd) (T : Txt mg) : FnOk P w K mg base CX0 (k + 1) f fd ["_law_net", "_law_path"] (spSum K) := by
  refine F.ok sc__law_sum (fun vs H Q E h => ?_) (fun cdv A outer s H vs Q E hr h => ?_)
  · obtain ⟨v, a, wb, xs, ds, rfl, _⟩ := h
    rfl
  obtain ⟨v, a, wb, xs, ds, rfl, tw, ok, hS, hs, qg, qb⟩ := h
  refine ⟨_, (pss_cons (ps_asg (pe_tup (pa_cons pe_int (pa_cons pe_int pa_nil))) (pg_tup rfl (pgs_cons (pg_name (i := 2) sc__law_sum.nd rfl (.inl rfl)) (pgs_cons (pg_name (i := 3) sc__law_sum.nd rfl (.inl rfl)) pgs_nil))))
      (pss_cons (ps_for PassesOwn.never rfl (pi_list (pv 1)) (pg_name (i := 4) sc__law_sum.nd rfl (.inl rfl)) (pss_cons (ps_if (PW.pt (pw_or (pt_val (pe_callB call_isi (by rfl) T.m_isinstance (by decide +kernel) (pa_cons (pv 4) (pa_cons (pe_ty (n := "bool") (by rfl) T.m_bool (by decide +kernel)) pa_nil)))) (pw_or (pt_not (pt_val (pe_callB call_isi (by rfl) T.m_isinstance (by decide +kernel) (pa_cons (pv 4) (pa_cons (pe_ty (n := "int") (by rfl) T.m_int (by decide +kernel)) pa_nil))))) (pw_or1 (pt_not (pt_chain op_le op_lt pe_int (pv 4) (pe_callB call_len_seq (by rfl) T.m_len PySem.boot_len (pa_cons (pe_ix ix_tup (pv 0) (pv 2) (fun _ _ => rfl)) pa_nil)))))))) (pss_one (ps_ret pe_non)) pss_nil)
      (pss_cons (ps_set (i := 3) sc__law_sum.nd rfl (.inl rfl) (pe_op op_add (pv 3) (pe_ix ix_tup (pe_ix ix_tup (pe_ix ix_tup (pv 0) (pv 2) (fun _ _ => rfl)) (pv 4) (fun _ _ => rfl)) pe_int (fun _ _ => rfl))))
      (pss_one (ps_set (i := 2) sc__law_sum.nd rfl (.inl rfl) (pe_ix ix_tup (pe_ix ix_tup (pe_ix ix_tup (pv 0) (pv 2) (fun _ _ => rfl)) (pv 4) (fun _ _ => rfl)) pe_int (fun _ _ => rfl)))))))
      (pss_one (ps_ret (pe_tup (pa_cons (pv 2) (pa_cons (pv 3) pa_nil))))))), ?_⟩
  have w1 := ok.1
  refine ⟨szl (by show 2 ≤ 100000; decide), fun p0 hp0 => ⟨p0, _, rfl, SqT.of upd_same, rfl, _, _, rfl, _, _, rfl, rfl, .ref a, rfl, a, rfl, ⟨_, (Same.new hp0).seq hS⟩, for_list (K := K) (a := a) (xs := xs) (fun i σ H' => ∃ (n t : Int) (m4 : Option V), σ = [some v, some (.ref a), some (.int n), some (.int t), m4] ∧ Same H H' ∧ 0 ≤ n ∧ n < wb.length ∧ go wb ds 0 0 0 = go wb (ds.drop i) n t i)
    ⟨0, 0, none, rfl, Same.new hp0, Int.le_refl _, by omega, rfl⟩ (fun i σ H' _ p => by obtain ⟨_, _, _, _, e, _⟩ := p; exact e.seq hS) ?_ ?_⟩⟩
  · rintro i x σ H1 hx ⟨n, t, m4, rfl, sm, n0, n1, eg⟩
    obtain ⟨d, hd, tx0⟩ := hs.get hx
    have tx := tx0.mono (Le.of sm)
    obtain ⟨aw, xw, b, ys, rfl, hS1, hat, hT, ht⟩ := (tw.mono (Le.of sm)).nodeIx n0 n1
    have hl : ys.length = (nodeAt wb n).length := by rw [ht.len, List.length_map]
    rw [go_step hd] at eg
    have bad : isInt 0 ((nodeAt wb n).length - 1) d = false → Q .non H1 := fun hb => by
      rw [hb, if_neg Bool.false_ne_true] at eg
      exact qb (by rw [eg]; intro z; cases z) _ sm
    refine ⟨x, rfl, x, .ty _, _, _, _, rfl, .ty _, tx.ty, tx.kBool, _, rfl, ?_⟩
    cases hb : d.isBool with
    | true => exact iteT (iteT (bad (isInt_bool hb)))
    | false =>
      refine iteF ⟨x, rfl, x, .ty _, _, _, _, rfl, .ty _, tx.ty, tx.kInt, _, rfl, ?_⟩
      cases hn : d.isNum with
      | false => exact iteT (iteT (bad (isInt_num hn)))
      | true =>
        obtain ⟨ix, rfl, rfl⟩ := tx.intOf hn hb
        refine iteF ⟨.int ix, rfl, 0, ix, rfl, rfl, ?_⟩
        have ei : isInt 0 ((nodeAt wb n).length - 1) (.int ix) = (decide (0 ≤ ix) && decide (ix ≤ (nodeAt wb n).length - 1)) := rfl
        refine ⟨_, rfl, ?_⟩
        by_cases h0 : 0 ≤ ix
        · rw [decide_eq_true h0]
          refine iteT ⟨.ref aw, rfl, .int n, rfl, aw, xw, n, .ref b, rfl, rfl, hS1, hat, b, ys, rfl, .inr hT, ix, _, rfl, rfl, _, rfl, ?_⟩
          rw [hl]
          by_cases h1 : ix < (nodeAt wb n).length
          · rw [decide_eq_true h1]
            rw [decide_eq_true h0, decide_eq_true (show ix ≤ (nodeAt wb n).length - 1 by omega)] at ei
            rw [ei, if_pos (by rfl)] at eg
            obtain ⟨c, hatc, hc⟩ := step_at ht ei
            have so := step_ok ok n0 n1 ei
            refine iteF ⟨.int t, rfl, .ref aw, rfl, .int n, rfl, aw, xw, n, .ref b, rfl, rfl, hS1, hat, .int ix, rfl, b, ys, ix, .ref c, rfl, rfl, hT, hatc, c, _, 0, _, rfl, rfl, hc, rfl, t, _, rfl, rfl, ?_⟩
            refine ⟨.ref aw, rfl, .int n, rfl, aw, xw, n, .ref b, rfl, rfl, hS1, hat, .int ix, rfl, b, ys, ix, .ref c, rfl, rfl, hT, hatc, c, _, 1, _, rfl, rfl, hc, rfl, ?_⟩
            exact ⟨_, _, _, rfl, sm, so.1, so.2, eg⟩
          · rw [decide_eq_false h1]
            rw [decide_eq_true h0, decide_eq_false (show ¬ ix ≤ (nodeAt wb n).length - 1 by omega)] at ei
            exact iteT (bad ei)
        · rw [decide_eq_false h0]
          rw [decide_eq_false h0] at ei
          exact iteF ⟨_, rfl, iteT (bad ei)⟩
  · rintro σ H1 ⟨n, t, m4, rfl, sm, n0, n1, eg⟩
    rw [hs.len, List.drop_length] at eg
    refine ⟨.int n, rfl, .int t, rfl, szl (by show 2 ≤ 100000; decide), fun p hp => ?_⟩
    exact qg (by rw [eg]; rfl) p _ (sm.trans (Same.new hp)) (sm.free hp) (by rw [eg, upd_same]; rfl)
end
end K02

set_option maxHeartbeats 4000000
namespace K02
open PySem PySem.Spec PyProof.Rows L2 Pd
section
variable {P : Program} {w : World} {K : PySem.W.Frag} {mg : Str → Option Value} {base : Heap} {f : Addr} {fd : FuncData} {k : Nat}
abbrev s__law_walk : Stmt := topS 23
abbrev N__law_walk : List Str := ["_law_hand_here", "_law_net", "_law_start", "_law_most", "_law_node", "_law_found", "_law_turn"]
theorem sc__law_walk : FnScope N__law_walk ["_law_hand_here", "_law_net", "_law_start", "_law_most"] (defScope s__law_walk) := ⟨rfl, rfl, rfl, by decide +kernel, rfl, by decide +kernel, by decide +kernel⟩

theorem ok_law_walk (F : L2.Fun K "_law_walk" "_law_walk" s__law_walk f fd) (T : Txt mg) (c__law_draw : Fn P w K mg base k "_law_draw" (spDraw 1000000000)) : FnOk P w K mg base CX0 (k + 1) f fd ["_law_hand_here", "_law_net", "_law_start", "_law_most"] (spWalk K) := by
  refine F.ok sc__law_walk (fun vs H Q E h => ?_) (fun cdv A outer s H vs Q E hr h => ?_)
  · obtain ⟨h, v, wb, most, rfl, _⟩ := h
    rfl
  obtain ⟨h, v, wb, most, rfl, hk, tw, ok, m0, m1, q⟩ := h
  refine ⟨_, (pss_cons (ps_par (i := 4) (j := 5) (by rfl) sc__law_walk.nd rfl rfl (by decide) rfl rfl (pa_cons (pv 2) (pa_cons (pe_lst pa_nil) pa_nil)) (by rfl))
      (pss_cons (ps_for PassesOwn.never rfl (pi_range1 (by rfl) T.m_range (pa_cons (pe_f c__law_draw hr (by first | decide | exact Nat.le_refl _ | omega) (by rfl) (pa_cons (pv 0) (pa_cons (pe_op op_add (pv 3) pe_int) pa_nil))) pa_nil)) (pg_name (i := 6) sc__law_walk.nd rfl (.inl rfl)) (pss_cons (ps_expr (pe_bm PySem.F.plainAttrs_list PySem.F.slot_list_append PySem.F.type_list_append mt_append (pv 5) (pa_cons (pe_f c__law_draw hr (by first | decide | exact Nat.le_refl _ | omega) (by rfl) (pa_cons (pv 0) (pa_cons (pe_callB call_len_seq (by rfl) T.m_len PySem.boot_len (pa_cons (pe_ix ix_tup (pv 1) (pv 4) (fun _ _ => rfl)) pa_nil)) pa_nil))) pa_nil)))
      (pss_one (ps_set (i := 4) sc__law_walk.nd rfl (.inl rfl) (pe_ix ix_tup (pe_ix ix_tup (pe_ix ix_tup (pv 1) (pv 4) (fun _ _ => rfl)) (pe_ix ix_list (pv 5) (pe_un un_neg pe_int) (fun _ _ => rfl)) (fun _ _ => rfl)) pe_int (fun _ _ => rfl))))))
      (pss_one (ps_ret (pe_tup (pa_cons (pv 5) (pa_cons (pv 4) pa_nil))))))), ?_⟩
  have w1 := ok.1
  refine ⟨.int 0, rfl, Nat.zero_le _, fun l hl => ⟨_, _, rfl, ?_⟩⟩
  have g1 : Go h H (upd H l (.lst [])) := Go.new hl
  have lh : l ≠ h := hk.ne_new hl
  refine ⟨.ref h, rfl, .int most, rfl, most, 1, rfl, rfl, h, most + 1, rfl, g1.ok hk, by omega, by omega, fun x H2 g2' xa xb => ?_⟩
  have g2 := g1.trans g2'
  refine ⟨x, rfl, by omega, by omega, for_range (lo := 0) (n := x.toNat) (fun i σ H' => ∃ (is : List Int) (e : Int) (m6 : Option V), σ = [some (.ref h), some v, some (.int 0), some (.int most), some (.int e), some (.ref l), m6] ∧
      Go h H H' ∧ H' l = some (.lst (is.map V.int)) ∧ is.length = i ∧ goodWalk wb 0 is e ∧ 0 ≤ e ∧ e < wb.length) ⟨[], 0, none, rfl, g2, g2'.fr _ _ lh upd_same, rfl, rfl, Int.le_refl _, by omega⟩ ?_ ?_⟩
  · rintro i σ H3 hi ⟨is, e, m6, rfl, g3, el, hlen, hg, e0, e1⟩
    obtain ⟨aw, xw, b, ys, rfl, hS1, hat, hT, ht⟩ := (tw.mono (g3.le hk)).nodeIx e0 e1
    have hly : ys.length = (nodeAt wb e).length := by rw [ht.len, List.length_map]
    have hnd := nodeAt_ok ok e0 e1
    refine ⟨.ref l, rfl, .inl ⟨rfl, _, SqL.of el⟩, .ref h, rfl, .ref aw, rfl, .int e, rfl, aw, xw, e, .ref b, rfl, rfl, hS1, hat, b, ys, rfl, .inr hT, h, _, rfl, g3.ok hk, by have := hnd.1; omega, by have := hnd.2.1; omega, fun y H4 g4' ya yb => ?_⟩
    have el4 : H4 l = some (.lst (is.map V.int)) := g4'.fr _ _ lh el
    refine ⟨l, _, _, rfl, rfl, el4, small_lt (by rw [List.length_map]; omega), ?_⟩
    have l4 : Le H3 (upd H4 l (.lst (is.map V.int ++ [.int y]))) := (g4'.le (g3.ok hk)).trans (Le.put el4)
    have hi : isInt 0 ((nodeAt wb e).length - 1) (.int y) = true := by
      show (decide (0 ≤ y) && decide (y ≤ (nodeAt wb e).length - 1)) = true
      rw [decide_eq_true ya, decide_eq_true (show y ≤ (nodeAt wb e).length - 1 by omega)]
      rfl
    obtain ⟨c, hatc, hc⟩ := step_at (ht.mono l4) hi
    have so := step_ok ok e0 e1 hi
    refine ⟨.ref aw, rfl, .int e, rfl, aw, xw, e, .ref b, rfl, rfl, l4.sqT hS1, hat, .ref l, rfl, 1, rfl, l, _, -1, .int y, rfl, rfl, SqL.of upd_same, atI_last _ _, b, ys, y, .ref c, rfl, rfl, l4.sqT hT, hatc, c, _, 1, _, rfl, rfl, hc, rfl, ?_⟩
    refine ⟨is ++ [y], _, _, rfl, (g3.trans g4').put hl, ?_, by rw [List.length_append, hlen]; rfl, hg.snoc hi, so.1, so.2⟩
    rw [upd_same, List.map_append]
    rfl
  · rintro σ H3 ⟨is, e, m6, rfl, g3, el, hlen, hg, e0, e1⟩
    refine ⟨.ref l, rfl, .int e, rfl, szl (by show 2 ≤ 100000; decide), fun p hp => ?_⟩
    have lp : l ≠ p := ne_of_none el hp
    exact q is e l p _ (g3.put (g3.free hk hp)) hl (g3.free hk hp) lp (by rw [upd_ne lp]; exact el) upd_same (by omega) hg
abbrev s__law_spoilt : Stmt := topS 26
abbrev N__law_spoilt : List Str := ["_law_hand_here", "_law_net", "_law_path", "_law_at", "_law_node", "_law_odd"]
theorem sc__law_spoilt : FnScope N__law_spoilt ["_law_hand_here", "_law_net", "_law_path"] (defScope s__law_spoilt) := ⟨rfl, rfl, rfl, by decide +kernel, rfl, by decide +kernel, by decide +kernel⟩

theorem ok_spoilt (F : L2.Fun K "_law_spoilt" "_law_spoilt" s__law_spoilt f fd) (T : Txt mg) (c__law_draw : Fn P w K mg base k "_law_draw" (spDraw 1000000000)) (c__law_sum : Fn P w K mg base k "_law_sum" (spSum K)) :
    FnOk P w K mg base CX0 (k + 1) f fd ["_law_hand_here", "_law_net", "_law_path"] (spSpoilt K) := by
  refine F.ok sc__law_spoilt (fun vs H Q E h => ?_) (fun cdv A outer s H vs Q E hr h => ?_)
  · obtain ⟨h, v, wb, l, is, e, rfl, _⟩ := h
    rfl
  obtain ⟨h, v, wb, l, is, e, rfl, hk, tw, ok, lh, el, hlen, hg, q⟩ := h
  refine ⟨_, (pss_cons (ps_set (i := 3) sc__law_spoilt.nd rfl (.inl rfl) (pe_f c__law_draw hr (by first | decide | exact Nat.le_refl _ | omega) (by rfl) (pa_cons (pv 0) (pa_cons (pe_op op_add (pe_callB call_len_seq (by rfl) T.m_len PySem.boot_len (pa_cons (pv 2) pa_nil)) pe_int) pa_nil))))
      (pss_cons (ps_set (i := 4) sc__law_spoilt.nd rfl (.inl rfl) (pe_ix ix_seq (pe_f c__law_sum hr (by first | decide | exact Nat.le_refl _ | omega) (by rfl) (pa_cons (pv 1) (pa_cons (pe_slice sl_list (pv 2) po_none (po_some (pv 3))) pa_nil))) pe_int (fun _ _ => rfl)))
      (pss_cons (ps_set (i := 5) sc__law_spoilt.nd rfl (.inl rfl) (pe_ix ix_list (pe_lst (pa_cons pe_non (pa_cons pe_bl (pa_cons pe_bl (pa_cons (pe_un un_neg pe_int) (pa_cons (pe_callB call_len_seq (by rfl) T.m_len PySem.boot_len (pa_cons (pe_ix ix_tup (pv 1) (pv 4) (fun _ _ => rfl)) pa_nil)) (pa_cons pe_str (pa_cons (pe_tup (pa_cons pe_int pa_nil)) (pa_cons (pe_lst (pa_cons pe_int pa_nil)) (pa_cons (pe_op op_pow pe_int pe_int) pa_nil)))))))))) (pe_f c__law_draw hr (by first | decide | exact Nat.le_refl _ | omega) (by rfl) (pa_cons (pv 0) (pa_cons pe_int pa_nil))) (fun _ _ => rfl)))
      (pss_one (ps_ret (pe_tup (pa_cons (pe_op op_cat (pe_op op_cat (pe_slice sl_list (pv 2) po_none (po_some (pv 3))) (pe_lst (pa_cons (pv 5) pa_nil))) (pe_slice sl_list (pv 2) (po_some (pe_op op_add (pv 3) (pe_f c__law_draw hr (by first | decide | exact Nat.le_refl _ | omega) (by rfl) (pa_cons (pv 0) (pa_cons pe_int pa_nil))))) po_none)) (pa_cons (pv 3) pa_nil)))))))), ?_⟩
  have w1 := ok.1
  have hm : (is.map V.int).length = is.length := List.length_map _
  refine ⟨.ref h, rfl, .ref l, rfl, l, _, rfl, .inl (SqL.of el), _, 1, rfl, rfl, h, _, rfl, hk, by omega, by rw [hm]; omega, fun at_ H1 g1 aa ab => ?_⟩
  rw [hm] at ab
  have el1 : H1 l = some (.lst (is.map V.int)) := g1.fr _ _ lh el
  have hat_ : at_.toNat ≤ is.length := by omega
  have elen : (is.take at_.toNat).length = at_.toNat := by rw [List.length_take]; omega
  obtain ⟨e1, hg1⟩ := hg.cut at_.toNat
  obtain ⟨t1, eg1⟩ := hg1.go (t := 0) (p := 0)
  have tw1 := tw.mono (g1.le hk)
  have ect : cutV (is.map V.int) none (some at_) = (is.take at_.toNat).map V.int := by rw [cut_take aa, List.map_take]
  have mono0 : ∀ {H2 : Hp}, Same H1 H2 → Go h H H2 := fun s2 => g1.trans (Go.same s2)
  refine ⟨v, rfl, .ref l, rfl, .int at_, rfl, at_, rfl, l, _, rfl, SqL.of el1, fun p1 hp1 => ?_⟩
  rw [ect]
  have s1 : Same H1 (upd H1 p1 (.lst ((is.take at_.toNat).map V.int))) := Same.new hp1
  refine ⟨v, p1, wb, _, _, rfl, tw1.mono (Le.of s1), ok, SqL.of upd_same, tpInts _, fun _ p2 H2 s2 hp2 e2 => ?_, fun hne => absurd (by rw [eg1]) hne⟩
  rw [eg1] at e2
  refine .inr (.inl ⟨p2, _, 0, .int e1, rfl, rfl, SqT.of e2, rfl, ?_⟩)
  have s12 := s1.trans s2
  have gi := go_in ok ((is.take at_.toNat).map D.int) 0 0 0 (Int.le_refl _) (by omega)
  rw [eg1] at gi
  obtain ⟨aw, xw, b, ys, rfl, hS1, hat, hT, ht⟩ := (tw1.mono (Le.of s12)).nodeIx gi.1 gi.2
  have hly : ys.length = (nodeAt wb e1).length := by rw [ht.len, List.length_map]
  have hnd := nodeAt_ok ok gi.1 gi.2
  -- the odd ones
  refine ⟨1, rfl, .ref aw, rfl, .int e1, rfl, aw, xw, e1, .ref b, rfl, rfl, hS1, hat, b, ys, rfl, .inr hT, szl (by show 1 ≤ 100000; decide), fun p3 hp3 => ⟨szl (by show 1 ≤ 100000; decide), fun p4 hp4 => ⟨10, 30, rfl, rfl, ⟨by decide, by decide, by decide⟩, szl (by show 9 ≤ 100000; decide), fun p5 hp5 => ?_⟩⟩⟩
  rw [hly]
  have p30 : (10 : Int) ^ (30 : Int).toNat = 1000000000000000000000000000000 := by decide
  have s5 := ((Same.new (o := .tup [.int 0]) hp3).trans (Same.new (o := .lst [.int 0]) hp4)).trans (Same.new (o := .lst [.non, .bl true, .bl false, .int (-1), .int (nodeAt wb e1).length, .str "0", .ref p3, .ref p4, .int (10 ^ (30 : Int).toNat)]) hp5)
  have g5 := mono0 (s12.trans s5)
  refine ⟨.ref h, rfl, h, 9, rfl, g5.ok hk, by decide, by decide, fun x H6 g6' xa xb => ?_⟩
  have g6 := g5.trans g6'
  have tAll5 : TpAll K (upd (upd (upd H2 p3 (.tup [.int 0])) p4 (.lst [.int 0])) p5 (.lst [.non, .bl true, .bl false, .int (-1), .int (nodeAt wb e1).length, .str "0", .ref p3, .ref p4, .int (10 ^ (30 : Int).toNat)])) [.non, .bl true, .bl false, .int (-1), .int (nodeAt wb e1).length, .str "0", .ref p3, .ref p4, .int (10 ^ (30 : Int).toNat)]
      [.non, .bl true, .bl false, .int (-1), .int (nodeAt wb e1).length, .str "0", .tup [.int 0], .oth "list", .int (10 ^ (30 : Int).toNat)] :=
    .cons .non (.cons (.bl _) (.cons (.bl _) (.cons (.int _) (.cons (.int _) (.cons (.str _) (.cons (Tp.mono ((Le.new hp4).trans (Le.new hp5)) (.tup (SqT.of upd_same) (.cons (.int 0) .nil))) (.cons (Tp.mono (Le.new hp5) (.lst upd_same)) (.cons (.int _) .nil))))))))
  have h5 : p5 ≠ h := ((mono0 s12).ok hk |>.same ((Same.new (o := .tup [.int 0]) hp3).trans (Same.new (o := .lst [.int 0]) hp4))).ne_new hp5
  have e6 := g6'.fr _ _ h5 (upd_same (H := upd (upd H2 p3 (.tup [.int 0])) p4 (.lst [.int 0])) (a := p5) (o := .lst [.non, .bl true, .bl false, .int (-1), .int (nodeAt wb e1).length, .str "0", .ref p3, .ref p4, .int (10 ^ (30 : Int).toNat)]))
  obtain ⟨odd, hodd, hodd2⟩ := pickI (xs := [V.non, .bl true, .bl false, .int (-1), .int (nodeAt wb e1).length, .str "0", .ref p3, .ref p4, .int (10 ^ (30 : Int).toNat)]) xa xb
  obtain ⟨dodd, hdodd, todd⟩ := tAll5.get hodd2
  have todd6 := todd.mono (g6'.le (g5.ok hk))
  have hbad : isInt 0 ((nodeAt wb e1).length - 1) dodd = false := by
    have hmem := List.mem_of_getElem? hdodd
    simp only [List.mem_cons, List.not_mem_nil, or_false] at hmem
    have h12 : (nodeAt wb e1).length ≤ 12 := hnd.2.1
    rcases hmem with rfl | rfl | rfl | rfl | rfl | rfl | rfl | rfl | rfl
    · rfl
    · rfl
    · rfl
    · rfl
    · show (decide (0 ≤ ((nodeAt wb e1).length : Int)) && decide (((nodeAt wb e1).length : Int) ≤ (nodeAt wb e1).length - 1)) = false
      rw [decide_eq_false (show ¬ ((nodeAt wb e1).length : Int) ≤ (nodeAt wb e1).length - 1 by omega), Bool.and_false]
    · rfl
    · rfl
    · rfl
    · show (decide (0 ≤ (10 : Int) ^ (30 : Int).toNat) && decide ((10 : Int) ^ (30 : Int).toNat ≤ (nodeAt wb e1).length - 1)) = false
      rw [p30, decide_eq_false (show ¬ (1000000000000000000000000000000 : Int) ≤ (nodeAt wb e1).length - 1 by omega), Bool.and_false]
  refine ⟨p5, _, x, odd, rfl, rfl, SqL.of e6, hodd, ?_⟩
  -- what is returned
  have el6 : H6 l = some (.lst (is.map V.int)) := g6.fr _ _ lh el
  refine ⟨.ref l, rfl, .int at_, rfl, at_, rfl, l, _, rfl, SqL.of el6, fun q1 hq1 => ⟨odd, rfl, szl (by show 1 ≤ 100000; decide), fun q2 hq2 => ?_⟩⟩
  rw [ect] at hq2 ⊢
  have n12 : q1 ≠ q2 := ne_of_none upd_same hq2
  refine ⟨q1, q2, _, _, rfl, rfl, by rw [upd_ne n12]; exact upd_same, upd_same, szl (by rw [List.length_map, elen]; show at_.toNat + 1 ≤ 100000; omega), fun q3 hq3 => ?_⟩
  have s8 := ((Same.new (o := .lst ((is.take at_.toNat).map V.int)) hq1).trans (Same.new (o := .lst [odd]) hq2)).trans (Same.new (o := .lst ((is.take at_.toNat).map V.int ++ [odd])) hq3)
  have g8 := g6.trans (Go.same s8)
  refine ⟨.ref l, rfl, .int at_, rfl, .ref h, rfl, h, 2, rfl, g8.ok hk, by decide, by decide, fun y H9 g9' ya yb => ⟨at_, y, rfl, rfl, at_ + y, rfl, ?_⟩⟩
  have g9 := g8.trans g9'
  have h3 : q3 ≠ h := ((g6.trans (Go.same ((Same.new (o := .lst ((is.take at_.toNat).map V.int)) hq1).trans (Same.new (o := .lst [odd]) hq2)))).ok hk).ne_new hq3
  have e9 : H9 q3 = some (.lst ((is.take at_.toNat).map V.int ++ [odd])) := g9'.fr _ _ h3 upd_same
  have ecd : cutV (is.map V.int) (some (at_ + y)) none = (is.drop (at_ + y).toNat).map V.int := by rw [cut_drop (by omega), List.map_drop]
  refine ⟨l, _, rfl, SqL.of (g9.fr _ _ lh el), fun q4 hq4 => ?_⟩
  rw [ecd]
  have n34 : q3 ≠ q4 := ne_of_none e9 hq4
  have dl : (is.drop (at_ + y).toNat).length ≤ 1000 := by rw [List.length_drop]; omega
  refine ⟨q3, q4, _, _, rfl, rfl, by rw [upd_ne n34]; exact e9, upd_same, szl ?_, fun q5 hq5 => ⟨.int at_, rfl, szl (by show 2 ≤ 100000; decide), fun q6 hq6 => ?_⟩⟩
  · rw [List.length_append, List.length_map, List.length_map, elen]
    show at_.toNat + 1 + _ ≤ _
    omega
  have sA := (Same.new (o := .lst ((is.drop (at_ + y).toNat).map V.int)) hq4).trans ((Same.new (o := .lst (((is.take at_.toNat).map V.int ++ [odd]) ++ (is.drop (at_ + y).toNat).map V.int)) hq5).trans (Same.new (o := .tup [.ref q5, .int at_]) hq6))
  have gA := g9.trans (Go.same sA)
  have n56 : q5 ≠ q6 := ne_of_none upd_same hq6
  have lA : Le H6 _ := ((Le.of s8).trans (g9'.le (g8.ok hk))).trans (Le.of sA)
  have ej : at_ = ((at_.toNat : Nat) : Int) := by omega
  refine q q6 q5 at_.toNat _ ((is.take at_.toNat).map D.int ++ dodd :: (is.drop (at_ + y).toNat).map D.int) _ gA ?_ (by rw [upd_ne n56]; exact upd_same) ?_ ?_ ?_ (by omega)
  · rw [upd_same, ← ej]
  · have z := ((tpInts (K := K) (is.take at_.toNat)).append (.cons (todd6.mono lA) .nil)).append (tpInts (is.drop (at_ + y).toNat))
    rw [List.append_assoc (as := (is.take at_.toNat).map D.int)] at z
    exact z
  · rw [go_bad hg1 hbad, elen]
  · rw [List.length_append, List.length_append, List.length_map, List.length_map, elen]
    show at_.toNat + 1 + _ ≤ _
    omega
end
end K02

set_option maxHeartbeats 4000000
namespace K02
open PySem PySem.Spec PyProof.Rows L2 Pd
/-- what the top leaves of the error classes: BadWalk at C, its __init__ at fI, ParlourError at D -/
structure TxtE (P : Program) (K : PySem.W.Frag) (mg : Str → Option Value) (C fI D : Addr) : Prop where
  bw : PySem.PlX.Txt P K mg "BadWalk" "BadWalk.__init__" C fI
  is : IsC K C
  gP : mg "ParlourError" = some (.ref D)
  te : PySem.W.exmOne K (.ref C) (.ref D) = some true
section
variable {P : Program} {w : World} {K : PySem.W.Frag} {mg : Str → Option Value} {base : Heap} {f : Addr} {fd : FuncData} {k : Nat} {C fI D : Addr}
abbrev s_walk_end : Stmt := topS 15
abbrev N_walk_end : List Str := ["web", "walk", "node", "total", "place"]
theorem sc_walk_end : FnScope N_walk_end ["web", "walk"] (defScope s_walk_end) := ⟨rfl, rfl, rfl, by decide +kernel, rfl, by decide +kernel, by decide +kernel⟩

theorem ok_walk_end (F : L2.Fun K "walk_end" "walk_end" s_walk_end f fd) (T : Txt mg) (B : TxtE P K mg C fI D) (c_need_web : Fn P w K mg base k "need_web" (spNeed K)) (c_walked : Fn P w K mg base k "walked" (spWalked K)) : FnOk P w K mg base (L2.CX P w) (k + 1) f fd ["web", "walk"] (spEnd C K) := by
  refine F.okX sc_walk_end (fun vs H Q E h => ?_) (fun cdv A outer s H vs Q E hr h => ?_)
  · obtain ⟨v, x, wb, o, rfl, _⟩ := h
    rfl
  obtain ⟨v, x, wb, o, rfl, tw, ok, ax, qg, qe⟩ := h
  refine ⟨_, (pss_cons (ps_expr (pe_f c_need_web hr (by first | decide | exact Nat.le_refl _ | omega) (by rfl) (pa_cons (pv 0) pa_nil)))
      (pss_cons (ps_if (pt_not (pt_val (pe_callB call_isi (by rfl) T.m_isinstance (by decide +kernel) (pa_cons (pv 1) (pa_cons (pe_ty (n := "list") (by rfl) T.m_list (by decide +kernel)) pa_nil))))) (pss_one (ps_raisePl rfl B.bw hr (takes_of rfl rfl rfl rfl) (pa_cons (pe_un un_neg pe_int) pa_nil))) pss_nil)
      (pss_cons (ps_asg (pe_f c_walked hr (by first | decide | exact Nat.le_refl _ | omega) (by rfl) (pa_cons (pv 0) (pa_cons (pe_slice sl_list (pv 1) po_none (po_some (pe_gl (by rfl) T.g_MOST_WALK))) pa_nil))) (pg_tup rfl (pgs_cons (pg_name (i := 2) sc_walk_end.nd rfl (.inl rfl)) (pgs_cons (pg_name (i := 3) sc_walk_end.nd rfl (.inl rfl)) (pgs_cons (pg_name (i := 4) sc_walk_end.nd rfl (.inl rfl)) pgs_nil)))))
      (pss_cons (ps_if (pt_cmpR op_notN (pv 4) pe_non (nomark _)) (pss_one (ps_raisePl rfl B.bw hr (takes_of rfl rfl rfl rfl) (pa_cons (pv 4) pa_nil))) pss_nil)
      (pss_cons (ps_if (pt_cmpR op_gt (pe_callB call_len_seq (by rfl) T.m_len PySem.boot_len (pa_cons (pv 1) pa_nil)) (pe_gl (by rfl) T.g_MOST_WALK) (nomark _)) (pss_one (ps_raisePl rfl B.bw hr (takes_of rfl rfl rfl rfl) (pa_cons (pe_gl (by rfl) T.g_MOST_WALK) pa_nil))) pss_nil)
      (pss_one (ps_ret (pe_tup (pa_cons (pv 2) (pa_cons (pv 3) pa_nil)))))))))), ?_⟩
  refine ⟨v, rfl, v, wb, rfl, tw, ok, fun H1 s1 => ?_⟩
  have ax1 := ax.mono s1
  cases o with
  | none =>
    obtain ⟨d, tx, hd⟩ := ax1
    refine ⟨x, rfl, x, .ty _, _, _, _, rfl, .ty _, tx.ty, tx.kLst, _, rfl, ?_⟩
    rw [hd]
    exact iteT ⟨1, rfl, _, rfl, fun dd hdd => qe _ rfl dd _ (s1.trans (Same.new hdd)) (s1.free hdd) upd_same⟩
  | some ds =>
    obtain ⟨a, xs, rfl, hA, hs⟩ := ax1
    have hS : SqL K H1 a xs := SqL.of hA
    have hl : xs.length = ds.length := hs.len
    have t1 := (Tp.lst (K := K) hA).ty
    have t2 := (Tp.lst (K := K) hA).kLst
    refine ⟨.ref a, rfl, .ref a, .ty _, _, _, _, rfl, .ty _, t1, t2, _, rfl, iteF ?_⟩
    refine ⟨v, rfl, .ref a, rfl, 10000, rfl, a, xs, rfl, hS, fun p1 hp1 => ?_⟩
    have s2 := s1.trans (Same.new (o := .lst (cutV xs none (some 10000))) hp1)
    have ec : cutV xs none (some 10000) = xs.take 10000 := cut_take (by decide)
    refine ⟨v, p1, wb, _, ds.take 10000, rfl, tw.mono (Le.of s2), ok, SqL.of upd_same, by rw [ec]; exact (hs.take 10000).mono (Le.new hp1), fun p2 H3 s3' hp2 e3 => ?_⟩
    have s3 := s2.trans s3'
    refine ⟨p2, _, rfl, SqT.of e3, rfl, _, _, rfl, _, _, rfl, _, _, rfl, rfl, ?_⟩
    cases hg : (go wb (ds.take 10000) 0 0 0).2.2 with
    | some j =>
      have ee : endOf wb (some ds) = (0, 0, some (j : Int)) := endOf_bad hg
      refine ⟨.int j, rfl, rfl, _, rfl, iteT ⟨.int j, rfl, _, rfl, fun dd hdd => qe j (by rw [ee]) dd _ (s3.trans (Same.new hdd)) (s3.free hdd) upd_same⟩⟩
    | none =>
      refine ⟨.non, rfl, rfl, _, rfl, iteF ⟨.ref a, rfl, a, xs, rfl, .inl (((Same.new hp1).trans s3').seq hS), _, 10000, rfl, rfl, _, rfl, ?_⟩⟩
      rw [hl]
      by_cases hlen : 10000 < ds.length
      · have ee : endOf wb (some ds) = (0, 0, some 10000) := endOf_long hg hlen
        rw [decide_eq_true (show (10000 : Int) < ds.length by omega)]
        exact iteT ⟨_, rfl, fun dd hdd => qe 10000 (by rw [ee]) dd _ (s3.trans (Same.new hdd)) (s3.free hdd) upd_same⟩
      · have ee : endOf wb (some ds) = ((go wb (ds.take 10000) 0 0 0).1, (go wb (ds.take 10000) 0 0 0).2.1, none) := endOf_ok hg hlen
        rw [decide_eq_false (show ¬ (10000 : Int) < ds.length by omega)]
        refine iteF ⟨_, rfl, _, rfl, szl (by show 2 ≤ 100000; decide), fun p hp => qg (by rw [ee]) p _ (s3.trans (Same.new hp)) (s3.free hp) ?_⟩
        rw [ee]
        exact upd_same
end
end K02

set_option maxHeartbeats 4000000
namespace K02
open PySem PySem.Spec PyProof.Rows L2 Pd
/-- a def that may raise, under its name -/
structure FnX (P : Program) (w : World) (K : PySem.W.Frag) (mg : Str → Option Value) (base : Heap) (k : Nat) (x : Str) (sp : Sp) : Prop where
  ex : ∃ (f : Addr) (fd : FuncData) (ps : List Str), FnOk P w K mg base (L2.CX P w) k f fd ps sp ∧ mg x = some (.ref f) ∧ PySem.W.keepIn K (.ref f) = true ∧ Binds K fd ps []
def t_suite (C : Addr) : Addr → Value → Option Addr → TS := fun a cls d =>
  tAsg (tTup (tCons (tC (.str "bad")) (tCons (tCB (rIsPl C a cls d) (tCons (tVar 3) (tCons (tC (.ref C)) tNil))) (tCons (tPlace C a cls d (tVar 3)) tNil)))) (gName 2)
section
variable {P : Program} {w : World} {K : PySem.W.Frag} {mg : Str → Option Value} {base : Heap} {f : Addr} {fd : FuncData} {k : Nat} {C fI D : Addr}
abbrev s__law_told : Stmt := topS 25
abbrev N__law_told : List Str := ["_law_net", "_law_path", "_law_found", "e"]
theorem sc__law_told : FnScope N__law_told ["_law_net", "_law_path"] (defScope s__law_told) := ⟨rfl, rfl, rfl, by decide +kernel, rfl, by decide +kernel, by decide +kernel⟩
theorem ok_told (F : L2.Fun K "_law_told" "_law_told" s__law_told f fd) (T : Txt mg) (B : TxtE P K mg C fI D) (c : FnX P w K mg base k "walk_end" (spEnd C K)) : FnOk P w K mg base CX0 (k + 1) f fd ["_law_net", "_law_path"] (spTold K) := by
  obtain ⟨fT, fdT, psT, GT, gT, kT, bT⟩ := c.ex
  refine F.ok sc__law_told (fun vs H Q E h => ?_) (fun cdv A outer s H vs Q E hr h => ?_)
  · obtain ⟨v, x, wb, o, rfl, _⟩ := h
    rfl
  obtain ⟨v, x, wb, o, rfl, tw, ok, ax, q⟩ := h
  refine ⟨_, pss_cons (ps_set (i := 2) sc__law_told.nd rfl (.inl rfl) pe_non)
    (pss_cons (ps_try_as (i := 3) (tb := fun W => tAsg (tCallS (spEnd C K) (WE W) (tCons (tVar 0) (tCons (tVar 1) tNil))) (gName 2)) (ts := t_suite C) (Wout := fun _ _ _ _ => False) rfl rfl sc__law_told.nd rfl rfl ⟨rfl, by decide, Or.inl B.gP⟩ takes0
      (fun W pn xe tk _ => pss_one (ps_set (i := 2) sc__law_told.nd rfl (Or.inl rfl) (by exact (pe_callS GT hr rfl gT kT bT (fun σ => passAt tk σ) (by exact (pa_cons (pv 0) (pa_cons (pv 1) pa_nil)))))))
      (fun a oe cls d pn hz hf => pss_one (ps_set (i := 2) sc__law_told.nd rfl (Or.inl rfl) (by exact (pe_tup (pa_cons pe_str (pa_cons (pe_callB (call_isPl B.bw B.is hz hf) (by rfl) T.m_isinstance (by decide +kernel) (pa_cons (pv 3) (pa_cons (pe_gl (by rfl) ⟨_, B.bw.gC, rfl⟩) pa_nil))) (pa_cons (pe_place B.bw hz hf (pv 3)) pa_nil))))))))
    (pss_one (ps_ret (pv 2)))), ?_⟩
  refine ⟨v, rfl, x, rfl, v, x, wb, o, rfl, tw, ok, ax, fun hn p H' s1 hp e1 => ⟨.ref p, rfl, q p H' s1 hp ?_⟩, fun j hj d H' s1 hd e1 => ⟨true, B.te, fun _ a0 ha0 => ?_, fun z => Bool.noConfusion z⟩⟩
  · unfold toldT
    rw [hn]
    exact e1
  · refine ⟨.ref a0, rfl, d, _, rfl, rfl, rfl, e1, .ref a0, rfl, rfl, rfl, d, _, rfl, e1, szl (by show 3 ≤ 100000; decide), fun p hp => ⟨.ref p, rfl, q p _ (s1.trans (Same.new hp)) (s1.free hp) ?_⟩⟩
    unfold toldT
    rw [hj]
    exact upd_same
end
end K02

set_option maxHeartbeats 4000000
namespace K02
open PySem PySem.Spec PyProof.Rows L2 Pd
/-- what stands through _law_right -/
structure Keep (K : PySem.W.Frag) (h l kp du : Addr) (v : V) (wb : Web) (is : List Int) (e t : Int) (H0 H : Hp) : Prop where
  go : Go h H0 H
  el : H l = some (.lst (is.map V.int))
  ek : H kp = some (.lst (is.map V.int))
  ed : H du = some (.tup [.int e, .int t])
  tw : Tp K H v (webD wb)
theorem Keep.same {K : PySem.W.Frag} {h l kp du : Addr} {v : V} {wb : Web} {is : List Int} {e t : Int} {H0 H H' : Hp} (k : Keep K h l kp du v wb is e t H0 H) (s : Same H H') : Keep K h l kp du v wb is e t H0 H' :=
  ⟨k.go.trans (Go.same s), s _ _ k.el, s _ _ k.ek, s _ _ k.ed, k.tw.mono (Le.of s)⟩
theorem Keep.draw {K : PySem.W.Frag} {h l kp du : Addr} {v : V} {wb : Web} {is : List Int} {e t : Int} {H0 H H' : Hp} (k : Keep K h l kp du v wb is e t H0 H) (hk : HandOk H0 h) (n1 : l ≠ h) (n2 : kp ≠ h) (n3 : du ≠ h) (g : Go h H H') : Keep K h l kp du v wb is e t H0 H' :=
  ⟨k.go.trans g, g.fr _ _ n1 k.el, g.fr _ _ n2 k.ek, g.fr _ _ n3 k.ed, k.tw.mono (g.le (k.go.ok hk))⟩
section
variable {P : Program} {w : World} {K : PySem.W.Frag} {mg : Str → Option Value} {base : Heap} {f : Addr} {fd : FuncData} {k : Nat} {C fI D : Addr}
abbrev s__law_right : Stmt := topS 27
abbrev N__law_right : List Str := ["_law_hand_here", "_law_net", "_law_path", "_law_node", "_law_kept", "_law_due", "_law_bad", "_law_place", "_law_odd", "_law_met_here"]
theorem sc__law_right : FnScope N__law_right ["_law_hand_here", "_law_net"] (defScope s__law_right) := ⟨rfl, rfl, rfl, by decide +kernel, rfl, by decide +kernel, by decide +kernel⟩

theorem ok_right (F : L2.Fun K "_law_right" "_law_right" s__law_right f fd) (T : Txt mg) (c__law_walk : Fn P w K mg base k "_law_walk" (spWalk K)) (c__law_sum : Fn P w K mg base k "_law_sum" (spSum K)) (c__law_told : Fn P w K mg base k "_law_told" (spTold K))
    (c_walk_end_walk_web : FnK P w K mg base k "walk_end" ["walk", "web"] (fun vs zs => vs ++ zs.reverse) (spEndG K)) (c_walk_end : Fn P w K mg base k "walk_end" (spEndG K)) (c__law_spoilt : Fn P w K mg base k "_law_spoilt" (spSpoilt K))
    (c_nodes_met : Fn P w K mg base k "nodes_met" (spNodes K)) (c_nodes_met_web : FnK P w K mg base k "nodes_met" ["web"] (fun vs zs => vs ++ zs) (spNodes K)) (c__law_met : Fn P w K mg base k "_law_met" (spMet K)) : FnG P w K mg base (k + 1) f fd ["_law_hand_here", "_law_net"] (spRight K) := by
  refine okG F sc__law_right (fun vs H Q E h => ?_) (fun cdv A outer s H vs Q E hgd hr h => ?_)
  · obtain ⟨h, v, wb, rfl, _⟩ := h
    rfl
  obtain ⟨h, v, wb, rfl, hk, tw, ok, q⟩ := h
  refine ⟨_, (pss_cons (ps_asg (pe_f c__law_walk hr (by first | decide | exact Nat.le_refl _ | omega) (by rfl) (pa_cons (pv 0) (pa_cons (pv 1) (pa_cons pe_int (pa_cons pe_int pa_nil))))) (pg_tup rfl (pgs_cons (pg_name (i := 2) sc__law_right.nd rfl (.inl rfl)) (pgs_cons (pg_name (i := 3) sc__law_right.nd rfl (.inl rfl)) pgs_nil))))
      (pss_cons (ps_set (i := 4) sc__law_right.nd rfl (.inl rfl) (pe_callTy call_list_of (by rfl) T.m_list (by decide +kernel) (pa_cons (pv 2) pa_nil)))
      (pss_cons (ps_set (i := 5) sc__law_right.nd rfl (.inl rfl) (pe_f c__law_sum hr (by first | decide | exact Nat.le_refl _ | omega) (by rfl) (pa_cons (pv 1) (pa_cons (pv 2) pa_nil))))
      (pss_cons (ps_if (PW.pt (pw_or (pt_cmpR op_ne (pe_callB (call_reprD hgd hr.units) (by rfl) T.m_repr (by decide +kernel) (pa_cons (pe_f c__law_told hr (by first | decide | exact Nat.le_refl _ | omega) (by rfl) (pa_cons (pv 1) (pa_cons (pv 2) pa_nil))) pa_nil)) (pe_callB (call_reprD hgd hr.units) (by rfl) T.m_repr (by decide +kernel) (pa_cons (pv 5) pa_nil)) (nomark _)) (pw_or (pt_cmpR op_ne (pe_ix ix_seq (pv 5) pe_int (fun _ _ => rfl)) (pv 3) (nomark _)) (pw_or1 (pt_cmpR (op_neD hr.units) (pe_fk c_walk_end_walk_web hr (by first | decide | exact Nat.le_refl _ | omega) (by rfl) (pk_cons (pv 2) (pk_cons (pv 1) pk_nil))) (pv 5) (nomark _)))))) (pss_one (ps_ret pe_bl)) pss_nil)
      (pss_cons (ps_asg (pe_f c__law_spoilt hr (by first | decide | exact Nat.le_refl _ | omega) (by rfl) (pa_cons (pv 0) (pa_cons (pv 1) (pa_cons (pv 2) pa_nil)))) (pg_tup rfl (pgs_cons (pg_name (i := 6) sc__law_right.nd rfl (.inl rfl)) (pgs_cons (pg_name (i := 7) sc__law_right.nd rfl (.inl rfl)) pgs_nil))))
      (pss_cons (ps_if (pt_cmpR op_ne (pe_callB (call_reprD hgd hr.units) (by rfl) T.m_repr (by decide +kernel) (pa_cons (pe_f c__law_told hr (by first | decide | exact Nat.le_refl _ | omega) (by rfl) (pa_cons (pv 1) (pa_cons (pv 6) pa_nil))) pa_nil)) (pe_callB (call_reprD hgd hr.units) (by rfl) T.m_repr (by decide +kernel) (pa_cons (pe_tup (pa_cons pe_str (pa_cons pe_bl (pa_cons (pv 7) pa_nil)))) pa_nil)) (nomark _)) (pss_one (ps_ret pe_bl)) pss_nil)
      (pss_cons (ps_for PassesOwn.never rfl (pi_list (pe_lst (pa_cons (pe_callTy call_tuple_of (by rfl) T.m_tuple (by decide +kernel) (pa_cons (pv 2) pa_nil)) (pa_cons pe_non (pa_cons pe_int (pa_cons pe_str (pa_cons pe_dnewK (pa_cons pe_bl pa_nil)))))))) (pg_name (i := 8) sc__law_right.nd rfl (.inl rfl)) (pss_one (ps_if (pt_cmpR (op_neD hr.units) (pe_f c__law_told hr (by first | decide | exact Nat.le_refl _ | omega) (by rfl) (pa_cons (pv 1) (pa_cons (pv 8) pa_nil))) (pe_tup (pa_cons pe_str (pa_cons pe_bl (pa_cons (pe_un un_neg pe_int) pa_nil)))) (nomark _)) (pss_one (ps_ret pe_bl)) pss_nil)))
      (pss_cons (ps_set (i := 9) sc__law_right.nd rfl (.inl rfl) (pe_f c_nodes_met hr (by first | decide | exact Nat.le_refl _ | omega) (by rfl) (pa_cons (pv 1) pa_nil)))
      (pss_cons (ps_if (PW.pt (pw_or (pt_not (pt_val (pe_callB call_isi (by rfl) T.m_isinstance (by decide +kernel) (pa_cons (pv 9) (pa_cons (pe_ty (n := "list") (by rfl) T.m_list (by decide +kernel)) pa_nil))))) (pw_or1 (pt_cmpR op_ne (pe_callB (call_reprD hgd hr.units) (by rfl) T.m_repr (by decide +kernel) (pa_cons (pv 9) pa_nil)) (pe_callB (call_reprD hgd hr.units) (by rfl) T.m_repr (by decide +kernel) (pa_cons (pe_f c__law_met hr (by first | decide | exact Nat.le_refl _ | omega) (by rfl) (pa_cons (pv 1) (pa_cons pe_int pa_nil))) pa_nil)) (nomark _))))) (pss_one (ps_ret pe_bl)) pss_nil)
      (pss_cons (ps_expr (pe_bm PySem.F.plainAttrs_list PySem.F.slot_list_append PySem.F.type_list_append mt_append (pv 9) (pa_cons (pe_un un_neg pe_int) pa_nil)))
      (pss_cons (ps_if (pt_cmpR (op_neD hr.units) (pe_fk c_nodes_met_web hr (by first | decide | exact Nat.le_refl _ | omega) (by rfl) (pk_cons (pv 1) pk_nil)) (pe_f c__law_met hr (by first | decide | exact Nat.le_refl _ | omega) (by rfl) (pa_cons (pv 1) (pa_cons pe_int pa_nil))) (nomark _)) (pss_one (ps_ret pe_bl)) pss_nil)
      (pss_one (ps_ret (pe_and (pe_cmpR (op_eqD hr.units) (pe_f c__law_told hr (by first | decide | exact Nat.le_refl _ | omega) (by rfl) (pa_cons (pv 1) (pa_cons (pv 2) pa_nil))) (pv 5) (nomark _)) (pe_and (pe_cmpR (op_eqD hr.units) (pv 2) (pv 4) (nomark _)) (pe_one (pe_cmpR (op_eqD hr.units) (pe_f c_walk_end hr (by first | decide | exact Nat.le_refl _ | omega) (by rfl) (pa_cons (pv 1) (pa_cons (pe_lst pa_nil) pa_nil))) (pe_tup (pa_cons pe_int (pa_cons pe_int pa_nil))) (nomark _)))))))))))))))))), ?_⟩
  have w1 := ok.1
  refine ⟨.ref h, rfl, v, rfl, h, v, wb, 30, rfl, hk, tw, ok, by decide, by decide, fun is e l p H1 g1 hl hp hlp el ep hlen hg => ⟨p, _, rfl, SqT.of ep, rfl, _, _, rfl, _, _, rfl, rfl, ?_⟩⟩
  obtain ⟨t, eg, tb1, tb2⟩ := hg.goB ok (t := 0) (p := 0) (Int.le_refl _) (by omega)
  have ei := go_in ok (is.map D.int) 0 0 0 (Int.le_refl _) (by omega)
  rw [eg] at ei
  have w2 := ok.2.1
  have e1 : e.natAbs < 10 ^ 12 := by
    have a : 0 ≤ e := ei.1
    have b : e < wb.length := ei.2
    omega
  have t1 : t.natAbs < 10 ^ 12 := by omega
  have lh : l ≠ h := hk.ne_new hl
  have etk : (is.map D.int).take 10000 = is.map D.int := List.take_of_length_le (by rw [List.length_map]; omega)
  have ee : endOf wb (some (is.map D.int)) = (e, t, none) := by
    have z := endOf_ok (w := wb) (ds := is.map D.int) (by rw [etk, eg]) (by rw [List.length_map]; omega)
    rw [etk, eg] at z
    exact z
  have et : toldT wb (some (is.map D.int)) = [.int e, .int t] := by
    unfold toldT
    rw [ee]
  -- kept = list(path)
  refine ⟨.ref l, rfl, l, _, rfl, .inl (SqL.of el), fun kp hkp => ?_⟩
  have s2 : Same H1 (upd H1 kp (.lst (is.map V.int))) := Same.new hkp
  have kh : kp ≠ h := hk.ne_new (g1.free hk hkp)
  -- due
  refine ⟨v, rfl, .ref l, rfl, v, l, wb, _, is.map D.int, rfl, tw.mono ((g1.le hk).trans (Le.of s2)), ok, SqL.of (s2 _ _ el), tpInts is, fun _ du H3 s3 hdu edu => ?_, fun hne => absurd (by rw [eg]) hne⟩
  rw [eg] at edu
  have dh : du ≠ h := hk.ne_new ((g1.trans (Go.same s2)).free hk hdu)
  have k3 : Keep K h l kp du v wb is e t H H3 := ⟨(g1.trans (Go.same s2)).trans (Go.same s3), s3 _ _ (s2 _ _ el), s3 _ _ upd_same, edu, tw.mono ((g1.le hk).trans (Le.of (s2.trans s3)))⟩
  clear s2 s3
  -- the first test
  refine ⟨v, rfl, .ref l, rfl, v, .ref l, wb, some (is.map D.int), rfl, k3.tw, ok, ⟨l, _, rfl, k3.el, tpInts is⟩, fun a4 H4 s4 ha4 e4 => ?_⟩
  rw [et] at e4
  have k4 := k3.same s4
  have S := shw_ii e1 t1
  refine ⟨a4, _, rfl, dp_ii e4, S.sh, S.nd, S.dp, S.ln, .ref du, rfl, du, _, rfl, dp_ii k4.ed, S.sh, S.nd, S.dp, S.ln, rfl, _, rfl, ?_⟩
  rw [decide_eq_true (show V.str _ = V.str _ from rfl)]
  refine iteF ⟨.ref du, rfl, .inr (.inl ⟨du, _, 0, .int e, rfl, rfl, SqT.of k4.ed, rfl, .int e, rfl, rfl, _, rfl, ?_⟩)⟩
  rw [decide_eq_true (show V.int e = V.int e from rfl)]
  refine iteF ⟨.ref l, rfl, v, rfl, rfl, rfl, v, .ref l, wb, some (is.map D.int), rfl, k4.tw, ok, ⟨l, _, rfl, k4.el, tpInts is⟩, by rw [ee], fun a5 H5 s5 ha5 e5 => ?_⟩
  rw [ee] at e5
  have k5 := k4.same s5
  refine ⟨.ref du, rfl, _, _, dp_ii e5, dp_ii k5.ed, sh_ii _ _, sh_ii _ _, _, rfl, ?_⟩
  rw [eq_ii]
  refine iteF ?_
  -- a spoilt one
  refine ⟨.ref h, rfl, v, rfl, .ref l, rfl, h, v, wb, l, is, e, rfl, k5.go.ok hk, k5.tw, ok, lh, k5.el, by omega, hg, fun p6 b6 j xs6 ds6 H6 g6 ep6 eb6 tx6 hj lx6 hj2 => ⟨p6, _, rfl, SqT.of ep6, rfl, _, _, rfl, _, _, rfl, rfl, ?_⟩⟩
  have k6 := k5.draw hk lh kh dh g6
  have ej : endOf wb (some ds6) = (0, 0, some (j : Int)) := endOf_bad (by rw [List.take_of_length_le (by rw [← tx6.len]; omega)]; exact hj)
  have etj : toldT wb (some ds6) = [.str "bad", .bl true, .int j] := by
    unfold toldT
    rw [ej]
  refine ⟨v, rfl, .ref b6, rfl, v, .ref b6, wb, some ds6, rfl, k6.tw, ok, ⟨b6, _, rfl, eb6, tx6⟩, fun a7 H7 s7 ha7 e7 => ?_⟩
  rw [etj] at e7
  have k7 := k6.same s7
  have Sb := shw_bad (j := (j : Int)) (by omega)
  refine ⟨a7, _, rfl, dp_bad e7, Sb.sh, Sb.nd, Sb.dp, Sb.ln, .int j, rfl, szl (by show 3 ≤ 100000; decide), fun p8 hp8 => ⟨p8, _, rfl, dp_bad upd_same, Sb.sh, Sb.nd, Sb.dp, Sb.ln, rfl, _, rfl, ?_⟩⟩
  have k8 := k7.same (Same.new (o := .tup [.str "bad", .bl true, .int j]) hp8)
  rw [decide_eq_true (show V.str _ = V.str _ from rfl)]
  refine iteF ?_
  -- other things
  refine ⟨.ref l, rfl, l, _, rfl, .inl ⟨SqL.of k8.el, fun p9 hp9 => ?_⟩⟩
  refine fun pd hpd => ⟨szl (by show 6 ≤ 100000; decide), fun ll hll => ?_⟩
  have k9 := ((k8.same (Same.new (o := .tup (is.map V.int)) hp9)).same (Same.new (o := .dK []) hpd)).same (Same.new (o := .lst [.ref p9, .non, .int 0, .str "", .ref pd, .bl true]) hll)
  have tAll : TpAll K (upd (upd (upd (upd H7 p8 (.tup [.str "bad", .bl true, .int j])) p9 (.tup (is.map V.int))) pd (.dK [])) ll (.lst [.ref p9, .non, .int 0, .str "", .ref pd, .bl true])) [.ref p9, .non, .int 0, .str "", .ref pd, .bl true] [.tup (is.map D.int), .non, .int 0, .str "", .oth "dict", .bl true] :=
    .cons (Tp.mono ((Le.new hpd).trans (Le.new hll)) (.tup (SqT.of upd_same) (tpInts is))) (.cons .non (.cons (.int 0) (.cons (.str _) (.cons (Tp.mono (Le.new hll) (.dct upd_same)) (.cons (.bl _) .nil)))))
  refine ⟨ll, rfl, ⟨_, SqL.of upd_same⟩, for_list (K := K) (a := ll) (xs := [.ref p9, .non, .int 0, .str "", .ref pd, .bl true]) (fun _ σ H' => (∃ m8, σ = [some (.ref h), some v, some (.ref l), some (.int e), some (.ref kp), some (.ref du), some (.ref b6), some (.int j), m8, none]) ∧
      Same (upd (upd (upd (upd H7 p8 (.tup [.str "bad", .bl true, .int j])) p9 (.tup (is.map V.int))) pd (.dK [])) ll (.lst [.ref p9, .non, .int 0, .str "", .ref pd, .bl true])) H')
    ⟨⟨none, rfl⟩, Same.refl _⟩ (fun i σ H' _ p => p.2.seq (SqL.of upd_same)) ?_ ?_⟩
  · rintro i x σ Ha hx ⟨⟨m8, rfl⟩, sa⟩
    obtain ⟨dx, hdx, tx⟩ := tAll.get hx
    have ka := k9.same sa
    have hnl : dx.isLst = false := by
      have hmem := List.mem_of_getElem? hdx
      simp only [List.mem_cons, List.not_mem_nil, or_false] at hmem
      rcases hmem with rfl | rfl | rfl | rfl | rfl | rfl <;> rfl
    refine ⟨v, rfl, x, rfl, v, x, wb, none, rfl, ka.tw, ok, ⟨dx, tx.mono (Le.of sa), hnl⟩, fun ab Hb sb hab eb => ⟨1, rfl, szl (by show 3 ≤ 100000; decide), fun pc hpc => ?_⟩⟩
    have eb' : Hb ab = some (.tup [.str "bad", .bl true, .int (-1)]) := eb
    have abc : ab ≠ pc := ne_of_none eb hpc
    refine ⟨_, _, dp_bad (by rw [upd_ne abc]; exact eb'), dp_bad upd_same, sh_bad _, sh_bad _, _, rfl, ?_⟩
    rw [eq_bad]
    exact iteF ⟨⟨_, rfl⟩, (sa.trans sb).trans (Same.new hpc)⟩
  rintro σ Ha ⟨⟨m8, rfl⟩, sa⟩
  have ka := k9.same sa
  -- the nodes that are met
  refine ⟨v, rfl, v, wb, rfl, ka.tw, ok, fun ys mh Hb hm sb hmh emh => ?_⟩
  have kb := ka.same sb
  have Ss : Shw (.list (ys.map PyData.int)) := by
    have inY : ∀ n ∈ ys, 0 ≤ n ∧ n < wb.length := fun n hn => ((hm.2 n).mp hn).inside ok (Int.le_refl _) (by omega)
    refine shw_ints (fun n hn => ?_) ?_
    · have := inY n hn
      omega
    · have f : FoundOk wb 0 ys := ⟨hm.1.imp fun {a b} z => by omega, (hm.2 0).mpr .refl, fun t ht => (hm.2 t).mp ht⟩
      have := f.len ok (Int.le_refl _) (by omega)
      omega
  refine ⟨.ref mh, rfl, .ref mh, .ty _, _, _, _, rfl, .ty _, (Tp.lst (K := K) emh).ty, (Tp.lst (K := K) emh).kLst, _, rfl, iteF ⟨.ref mh, rfl, mh, _, rfl, dp_ints emh, Ss.sh, Ss.nd, Ss.dp, Ss.ln, v, rfl, v, wb, 0, rfl, kb.tw, ok, Int.le_refl _, by omega, fun ys' mc Hc hm' sc hmc emc => ?_⟩⟩
  have ey : ys' = ys := hm'.uniq hm
  subst ey
  have kc := kb.same sc
  refine ⟨mc, _, rfl, dp_ints emc, Ss.sh, Ss.nd, Ss.dp, Ss.ln, rfl, _, rfl, ?_⟩
  rw [decide_eq_true (show V.str _ = V.str _ from rfl)]
  refine iteF ?_
  -- append(-1)
  have emh2 := sc _ _ emh
  have ly : ys'.length ≤ 120 := by
    have f : FoundOk wb 0 ys' := ⟨hm.1.imp fun {a b} z => by omega, (hm.2 0).mpr .refl, fun t ht => (hm.2 t).mp ht⟩
    have := f.len ok (Int.le_refl _) (by omega)
    omega
  refine ⟨.ref mh, rfl, .inl ⟨rfl, _, SqL.of emh2⟩, 1, rfl, mh, _, _, rfl, rfl, emh2, small_lt (by rw [List.length_map]; omega), ?_⟩
  have kd : Keep K h l kp du v wb is e t H (upd Hc mh (.lst (ys'.map V.int ++ [.int (-1)]))) :=
    ⟨kc.go.put (ka.go.free hk hmh), by rw [upd_ne (ne_of_none ka.el hmh)]; exact kc.el, by rw [upd_ne (ne_of_none ka.ek hmh)]; exact kc.ek, by rw [upd_ne (ne_of_none ka.ed hmh)]; exact kc.ed, kc.tw.mono (Le.put emh2)⟩
  -- nodes_met(web = net)
  refine ⟨v, rfl, rfl, rfl, v, wb, rfl, kd.tw, ok, fun y1 m1 He hm1 se hm1n em1 => ?_⟩
  have ke := kd.same se
  refine ⟨v, rfl, v, wb, 0, rfl, ke.tw, ok, Int.le_refl _, by omega, fun y2 m2 Hf hm2 sf hm2n em2 => ?_⟩
  have kf := ke.same sf
  have e12 : y2 = y1 := hm2.uniq hm1
  subst e12
  refine ⟨_, _, dp_ints (sf _ _ em1), dp_ints em2, shInts _, shInts _, _, rfl, ?_⟩
  rw [eqvInts]
  refine iteF ?_
  -- the end
  refine ⟨v, rfl, .ref l, rfl, v, .ref l, wb, some (is.map D.int), rfl, kf.tw, ok, ⟨l, _, rfl, kf.el, tpInts is⟩, fun ag Hg sg hag eg' => ?_⟩
  rw [et] at eg'
  have kg := kf.same sg
  refine ⟨.ref du, rfl, _, _, dp_ii eg', dp_ii kg.ed, sh_ii _ _, sh_ii _ _, _, rfl, ?_⟩
  rw [eq_ii]
  refine iteT ⟨.ref l, rfl, .ref kp, rfl, _, _, dp_ints kg.el, dp_ints kg.ek, shInts _, shInts _, _, rfl, ?_⟩
  rw [eqvInts]
  have e0 : endOf wb (some []) = (0, 0, none) := endOf_ok (w := wb) (ds := []) rfl (by decide)
  refine iteT ⟨v, rfl, Nat.zero_le _, fun pl hpl => ⟨v, .ref pl, wb, some [], rfl, kg.tw.mono (Le.new hpl), ok, ⟨pl, [], rfl, upd_same, .nil⟩, by rw [e0], fun ai Hi si hai ei' => ⟨szl (by show 2 ≤ 100000; decide), fun pj hpj => ?_⟩⟩⟩
  rw [e0] at ei'
  have ij : ai ≠ pj := ne_of_none ei' hpj
  refine ⟨_, _, dp_ii (by rw [upd_ne ij]; exact ei'), dp_ii upd_same, sh_ii _ _, sh_ii _ _, ?_⟩
  rw [eq_ii]
  exact q _ (((kg.same (Same.new hpl)).same si).same (Same.new hpj)).go
end
end K02

set_option maxHeartbeats 4000000
namespace K02
open PySem PySem.Spec PyProof.Rows L2 Pd
def spLaw (K : PySem.W.Frag) : Sp := fun vs H Q _ => ∃ (a : Addr) (ns : List Int), vs = [.ref a] ∧ SqL K H a (ns.map V.int) ∧ ns.length ≤ 63 ∧ ∀ H', Q (.bl true) H'
theorem rg_ints : rgV 0 120 = ((List.range 120).map fun i => 0 + ((i : Nat) : Int)).map V.int := by
  unfold rgV
  rw [List.map_map]
  rfl
theorem goSeq {K : PySem.W.Frag} {H H1 H2 : Hp} {h a : Addr} {xs : List V} (s : Same H H1) (n : H h = none) (g : Go h H1 H2) (q : SqL K H a xs) : SqL K H2 a xs := by
  rcases q with (q | ⟨o, q⟩) | q
  · exact .inl (.inl (g.fr _ _ (ne_of_none q n) (s _ _ q)))
  · exact .inl (.inr ⟨o, g.fr _ _ (ne_of_none q n) (s _ _ q)⟩)
  · exact .inr q
section
variable {P : Program} {w : World} {K : PySem.W.Frag} {mg : Str → Option Value} {base : Heap} {f : Addr} {fd : FuncData} {k : Nat}
abbrev s_law : Stmt := topS 28
abbrev N_law : List Str := ["_law_script", "_law_hand_here", "_law_net", "_law_turn", "_law_line", "_law_long", "_law_node"]
theorem sc_law : FnScope N_law ["_law_script"] (defScope s_law) := ⟨rfl, rfl, rfl, by decide +kernel, rfl, by decide +kernel, by decide +kernel⟩

theorem ok_law (F : L2.Fun K "law" "law" s_law f fd) (T : Txt mg) (c__law_draw : Fn P w K mg base 2 "_law_draw" (spDraw 1000000000)) (c__law_hand : Fn P w K mg base 1 "_law_hand" (spHand K)) (c__law_web : Fn P w K mg base 3 "_law_web" (spWeb K))
    (c__law_right : FnGn P w K mg base 7 "_law_right" (spRight K)) (c_nodes_met : Fn P w K mg base 6 "nodes_met" (spNodes K)) (c_walk_end : Fn P w K mg base 6 "walk_end" (spEndG K)) (c__law_told : Fn P w K mg base 6 "_law_told" (spTold K)) (c__law_sum : Fn P w K mg base 6 "_law_sum" (spSum K)) :
    FnG P w K mg base 8 f fd ["_law_script"] (spLaw K) := by
  refine okG F sc_law (fun vs H Q E h => ?_) (fun cdv A outer s H vs Q E hgd hr h => ?_)
  · obtain ⟨h, r, rfl, _⟩ := h
    rfl
  obtain ⟨a, ns, rfl, hS, hlen, q⟩ := h
  refine ⟨_, (pss_cons (ps_set (i := 1) sc_law.nd rfl (.inl rfl) (pe_f c__law_hand hr (by first | decide | exact Nat.le_refl _ | omega) (by rfl) (pa_cons (pv 0) pa_nil)))
      (pss_cons (ps_set (i := 2) sc_law.nd rfl (.inl rfl) (pe_f c__law_web hr (by first | decide | exact Nat.le_refl _ | omega) (by rfl) (pa_cons (pv 1) (pa_cons pe_int pa_nil))))
      (pss_cons (ps_for PassesOwn.never rfl (pi_range1 (by rfl) T.m_range (pa_cons (pe_callB (call_max2 rfl) (by rfl) T.m_max (by decide +kernel) (pa_cons pe_int (pa_cons (pe_callB (call_min2 rfl) (by rfl) T.m_min (by decide +kernel) (pa_cons pe_int (pa_cons (pe_callB call_len_seq (by rfl) T.m_len PySem.boot_len (pa_cons (pv 0) pa_nil)) pa_nil))) pa_nil))) pa_nil)) (pg_name (i := 3) sc_law.nd rfl (.inl rfl)) (pss_cons (ps_set (i := 2) sc_law.nd rfl (.inl rfl) (pe_f c__law_web hr (by first | decide | exact Nat.le_refl _ | omega) (by rfl) (pa_cons (pv 1) (pa_cons pe_int pa_nil))))
      (pss_one (ps_if (pt_not (pt_val (pe_fg c__law_right hgd hr (by first | decide | exact Nat.le_refl _ | omega) (by rfl) (pa_cons (pv 1) (pa_cons (pv 2) pa_nil))))) (pss_one (ps_ret pe_bl)) pss_nil))))
      (pss_cons (ps_if (pt_cmpR op_gt (pe_f c__law_draw hr (by first | decide | exact Nat.le_refl _ | omega) (by rfl) (pa_cons (pv 1) (pa_cons pe_int pa_nil))) pe_int (nomark _)) (pss_one (ps_ret pe_bl)) pss_nil)
      (pss_cons (ps_set (i := 4) sc_law.nd rfl (.inl rfl) (pe_callTy call_tuple_of (by rfl) T.m_tuple (by decide +kernel) (pa_cons (pe_lc (own := [("_law_node", 6)]) (g := gName 6)  rfl sc_law.nd (pi_range1 (by rfl) T.m_range (pa_cons pe_int pa_nil)) (blkOk_by (own := [("_law_node", 6)]) (N := N_law) (sc := defScope s_law) (by decide +kernel)) (fun _ _ _ _ _ => pg_name (i := 6) sc_law.nd rfl (.inl rfl)) (fun _ _ _ _ _ => pts_nil) (fun _ _ _ _ _ => (pe_tup (pa_cons (pe_tup (pa_cons pe_int (pa_cons (pe_callB (call_min2 rfl) (by rfl) T.m_min (by decide +kernel) (pa_cons pe_int (pa_cons (pe_op op_add (pv 6) pe_int) pa_nil))) pa_nil))) pa_nil)))) pa_nil)))
      (pss_cons (ps_if (PW.pt (pw_or (pt_cmpR (op_neD hr.units) (pe_f c_nodes_met hr (by first | decide | exact Nat.le_refl _ | omega) (by rfl) (pa_cons (pv 4) pa_nil)) (pe_listRg rfl (by rfl) T.m_list (prg_1 (by rfl) T.m_range pe_int)) (nomark _)) (pw_or1 (pt_cmpR (op_neD hr.units) (pe_f c_walk_end hr (by first | decide | exact Nat.le_refl _ | omega) (by rfl) (pa_cons (pv 4) (pa_cons (pe_op op_rep (pe_lst (pa_cons pe_int pa_nil)) pe_int) pa_nil))) (pe_tup (pa_cons pe_int (pa_cons pe_int pa_nil))) (nomark _))))) (pss_one (ps_ret pe_bl)) pss_nil)
      (pss_cons (ps_set (i := 5) sc_law.nd rfl (.inl rfl) (pe_op op_rep (pe_lst (pa_cons pe_int pa_nil)) (pe_op op_pow pe_int pe_int)))
      (pss_cons (ps_if (PW.pt (pw_or (pt_cmpR (op_neD hr.units) (pe_f c__law_told hr (by first | decide | exact Nat.le_refl _ | omega) (by rfl) (pa_cons (pv 2) (pa_cons (pv 5) pa_nil))) (pe_f c__law_sum hr (by first | decide | exact Nat.le_refl _ | omega) (by rfl) (pa_cons (pv 2) (pa_cons (pv 5) pa_nil))) (nomark _)) (pw_or1 (pt_cmpR (op_neD hr.units) (pe_f c__law_told hr (by first | decide | exact Nat.le_refl _ | omega) (by rfl) (pa_cons (pv 2) (pa_cons (pe_op op_cat (pv 5) (pe_lst (pa_cons pe_int pa_nil))) pa_nil))) (pe_tup (pa_cons pe_str (pa_cons pe_bl (pa_cons (pe_op op_pow pe_int pe_int) pa_nil)))) (nomark _))))) (pss_one (ps_ret pe_bl)) pss_nil)
      (pss_cons (ps_if (pt_cmpR (op_neD hr.units) (pe_f c__law_told hr (by first | decide | exact Nat.le_refl _ | omega) (by rfl) (pa_cons (pv 2) (pa_cons (pe_op op_cat (pe_slice sl_list (pv 5) (po_some pe_int) po_none) (pe_lst (pa_cons pe_int pa_nil))) pa_nil))) (pe_tup (pa_cons pe_str (pa_cons pe_bl (pa_cons pe_int pa_nil)))) (nomark _)) (pss_one (ps_ret pe_bl)) pss_nil)
      (pss_one (ps_ret (pe_cmpR (op_eqD hr.units) (pe_f c__law_told hr (by first | decide | exact Nat.le_refl _ | omega) (by rfl) (pa_cons (pv 2) (pa_cons (pe_op op_cat (pv 5) (pe_lst (pa_cons pe_int pa_nil))) pa_nil))) (pe_tup (pa_cons pe_str (pa_cons pe_bl (pa_cons (pe_op op_pow pe_int pe_int) pa_nil)))) (nomark _))))))))))))), ?_⟩
  refine ⟨.ref a, rfl, a, ns, rfl, hS, fun h H1 s1 nh hk => ?_⟩
  refine ⟨.ref h, rfl, h, 3, rfl, hk, by decide, by decide, fun v0 H2 w0 g2 tw0 ok0 lw0 => ?_⟩
  have hS2 : SqL K H2 a (ns.map V.int) := goSeq s1 nh g2 hS
  refine ⟨.ref a, rfl, a, _, rfl, .inl hS2, 5, _, rfl, 1, _, rfl, _, rfl, ?_, ?_, for_range (lo := 0) (fun i σ H' => (∃ m3 v wb, σ = [some (.ref a), some (.ref h), some v, m3, none, none, none] ∧ Tp K H' v (webD wb) ∧ OkWeb wb) ∧ HandOk H' h)
    ⟨⟨none, v0, w0, rfl, tw0, ok0⟩, g2.ok hk⟩ ?_ ?_⟩
  · rw [List.length_map]; split <;> split <;> omega
  · rw [List.length_map]; split <;> split <;> omega
  · rintro i σ H3 hi ⟨⟨m3, v, wb, rfl, tw, ok⟩, hk3⟩
    refine ⟨.ref h, rfl, h, 8, rfl, hk3, by decide, by decide, fun v1 H4 w1 g4 tw1 ok1 lw1 => ?_⟩
    have hk4 := g4.ok hk3
    refine ⟨.ref h, rfl, v1, rfl, h, v1, w1, rfl, hk4, tw1, ok1, fun H5 g5 => ⟨_, rfl, iteF ⟨⟨_, v1, w1, rfl, tw1.mono (g5.le hk4), ok1⟩, g5.ok hk4⟩⟩⟩
  rintro σ H3 ⟨⟨m3, v, wb, rfl, tw, ok⟩, hk3⟩
  refine ⟨.ref h, rfl, h, 3, rfl, hk3, by decide, by decide, fun x H4 g4 xa xb => ⟨x, 0, rfl, rfl, _, rfl, ite2 (fun _ => q _) (fun _ => ?_)⟩⟩
  have tw4 := tw.mono (g4.le hk3)
  -- the line
  refine ⟨120, rfl, by decide, by decide, fun Dl hD => lc_range (lo := 0) (n := 120) (fun i H' => ∃ us, Same H4 H' ∧ H' Dl = some (.lst us) ∧ TpAll K H' us (((List.range i).map lineN).map nodeD) ∧ us.length = i)
    ⟨[], Same.new hD, upd_same, .nil, rfl⟩ ?_ ?_⟩
  · rintro i H5 hi ⟨us, s5, eD, tus, lus⟩
    refine ⟨rfl, yes_rd ?_⟩
    refine ⟨_, rfl, _, 1, rfl, rfl, 119, _, rfl, szl (by show 2 ≤ 100000; decide), fun p1 hp1 => ⟨szl (by show 1 ≤ 100000; decide), fun p2 hp2 => ?_⟩⟩
    have d1 : Dl ≠ p1 := ne_of_none eD hp1
    have s6 := (Same.new (o := .tup [.int 1, _]) hp1).trans (Same.new (o := .tup [.ref p1]) hp2)
    have eD6 := s6 _ _ eD
    refine ⟨us, eD6, small_lt (by omega), us ++ [.ref p2], ?_, upd_same, ?_, by rw [List.length_append, lus]; rfl⟩
    · intro b o e
      rw [upd_ne (ne_of_none e hD)]
      exact s6 b o (s5 b o e)
    · rw [List.range_succ, List.map_append, List.map_append]
      refine (tus.mono ((Le.of s6).trans (Le.put eD6))).append (.cons (Tp.mono (Le.put eD6) (.tup (SqT.of upd_same) (.cons (Tp.mono (Le.new hp2) (.tup (SqT.of upd_same) (.cons (.int 1) (.cons ?_ .nil)))) .nil))) .nil)
      have e9 : (if 0 + (i : Int) + 1 < 119 then 0 + (i : Int) + 1 else 119) = (if (i : Int) + 1 < 119 then (i : Int) + 1 else 119) := by rw [Int.zero_add]
      show Tp K _ (V.int _) (D.int (if (i : Int) + 1 < 119 then (i : Int) + 1 else 119))
      rw [← e9]
      exact .int _
  · rintro H5 ⟨us, s5, eD, tus, lus⟩
    refine ⟨Dl, us, rfl, .inl ⟨SqL.of eD, fun lp hlp => ?_⟩⟩
    have s6 : Same H4 (upd H5 lp (.tup us)) := s5.trans (Same.new hlp)
    have tl : Tp K (upd H5 lp (.tup us)) (.ref lp) (webD lineW) := .tup (SqT.of upd_same) (tus.mono (Le.new hlp))
    have tw6 := tw4.mono (Le.of s6)
    clear tw tw4
    -- nodes_met(line)
    refine ⟨.ref lp, rfl, .ref lp, lineW, rfl, tl, line_ok, fun ys m7 H7 hm s7 hm7 em7 => ?_⟩
    have ey : ys = (List.range 120).map fun i => 0 + ((i : Nat) : Int) := hm.uniq line_met
    subst ey
    refine ⟨120, rfl, RgOk.of_le (by decide) (by decide) (by decide) (by decide), fun p8 hp8 => ?_⟩
    have n78 : m7 ≠ p8 := ne_of_none em7 hp8
    rw [rg_ints]
    refine ⟨_, _, dp_ints (by rw [upd_ne n78]; exact em7), dp_ints upd_same, shInts _, shInts _, _, rfl, ?_⟩
    rw [eqvInts]
    have s8 := (s6.trans s7).trans (Same.new (o := .lst (((List.range 120).map fun i => 0 + ((i : Nat) : Int)).map V.int)) hp8)
    have tl8 := tl.mono (Le.of (s7.trans (Same.new (o := .lst (((List.range 120).map fun i => 0 + ((i : Nat) : Int)).map V.int)) hp8)))
    have tw8 := tw6.mono (Le.of (s7.trans (Same.new (o := .lst (((List.range 120).map fun i => 0 + ((i : Nat) : Int)).map V.int)) hp8)))
    clear s8 tw6 tl
    -- walk_end(line, [0] * 119)
    refine iteF ⟨.ref lp, rfl, szl (by show 1 ≤ 100000; decide), fun p9 hp9 => ⟨p9, 119, _, rfl, rfl, upd_same, by decide, by decide, szl (by decide), fun pa hpa => ?_⟩⟩
    have erep : (List.replicate (119 : Int).toNat [V.int 0]).flatten = (List.replicate 119 (0 : Int)).map V.int := by rw [rep_one, rep_map]; rfl
    rw [erep]
    have sa := (Same.new (o := .lst [.int 0]) hp9).trans (Same.new (o := .lst ((List.replicate 119 (0 : Int)).map V.int)) hpa)
    have l119 : ((List.replicate 119 (0 : Int)).map D.int).length = 119 := by rw [List.length_map, List.length_replicate]
    have etk : ((List.replicate 119 (0 : Int)).map D.int).take 10000 = (List.replicate 119 (0 : Int)).map D.int := List.take_of_length_le (by rw [l119]; decide)
    have eg := line_walk 119 (Nat.le_refl _) 0 0 0 (Nat.le_refl _)
    have ee : endOf lineW (some ((List.replicate 119 (0 : Int)).map D.int)) = (119, 119, none) := by
      have z := endOf_ok (w := lineW) (ds := (List.replicate 119 (0 : Int)).map D.int) (by rw [etk]; exact congrArg (·.2.2) eg) (by rw [l119]; decide)
      rw [etk] at z
      refine z.trans ?_
      have z2 : go lineW ((List.replicate 119 (0 : Int)).map D.int) 0 0 0 = (119, 119, none) := eg
      rw [z2]
    refine ⟨.ref lp, .ref pa, lineW, some ((List.replicate 119 (0 : Int)).map D.int), rfl, tl8.mono (Le.of sa), line_ok, ⟨pa, _, rfl, upd_same, tpInts _⟩, by rw [ee], fun pb Hb sb hpb eb => ⟨szl (by show 2 ≤ 100000; decide), fun pc hpc => ?_⟩⟩
    rw [ee] at eb
    have nbc : pb ≠ pc := ne_of_none eb hpc
    refine ⟨_, _, dp_ii (by rw [upd_ne nbc]; exact eb), dp_ii upd_same, sh_ii _ _, sh_ii _ _, _, rfl, ?_⟩
    rw [eq_ii]
    have twc := tw8.mono (Le.of ((sa.trans sb).trans (Same.new (o := .tup [.int 119, .int 119]) hpc)))
    clear tw8 tl8
    refine iteF ?_
    -- long walks
    refine ⟨szl (by show 1 ≤ 100000; decide), fun pd hpd => ⟨10, 4, rfl, rfl, ⟨by decide, by decide, by decide⟩, pd, 10 ^ (4 : Int).toNat, _, rfl, rfl, upd_same, by decide, by decide, szl (by decide), fun pl hpl => ?_⟩⟩
    have erep2 : (List.replicate ((10 : Int) ^ (4 : Int).toNat).toNat [V.int 0]).flatten = (List.replicate 10000 (0 : Int)).map V.int := by
      rw [show ((10 : Int) ^ (4 : Int).toNat).toNat = 10000 by decide, rep_one, rep_map]
    rw [erep2]
    have LL : ((List.replicate 10000 (0 : Int)).map V.int).length = 10000 := by rw [List.length_map, List.length_replicate]
    have sl := (Same.new (o := .lst [.int 0]) hpd).trans (Same.new (o := .lst ((List.replicate 10000 (0 : Int)).map V.int)) hpl)
    have twl := twc.mono (Le.of sl)
    obtain ⟨Hl, eHl⟩ : ∃ Hl, Hl = upd (upd (upd Hb pc (.tup [.int 119, .int 119])) pd (.lst [.int 0])) pl (.lst ((List.replicate 10000 (0 : Int)).map V.int)) := ⟨_, rfl⟩
    have el : Hl pl = some (.lst ((List.replicate 10000 (0 : Int)).map V.int)) := by rw [eHl]; exact upd_same
    rw [← eHl] at twl
    show tSeq _ _ _ _ (upd (upd (upd Hb pc (.tup [.int 119, .int 119])) pd (.lst [.int 0])) pl (.lst ((List.replicate 10000 (0 : Int)).map V.int)))
    rw [← eHl]
    clear eHl sl twc sa sb
    obtain ⟨e, tt, eg2, et2⟩ := told_long ok
    refine ⟨v, rfl, .ref pl, rfl, v, .ref pl, wb, some ((List.replicate 10000 (0 : Int)).map D.int), rfl, twl, ok, ⟨pl, _, rfl, el, tpInts _⟩, fun p1 H10 s10 hp1 e1 => ?_⟩
    rw [et2] at e1
    refine ⟨v, rfl, .ref pl, rfl, v, pl, wb, _, (List.replicate 10000 (0 : Int)).map D.int, rfl, twl.mono (Le.of s10), ok, SqL.of (s10 _ _ el), tpInts _, fun _ p2 H11 s11 hp2 e2 => ?_, fun hne => absurd (by rw [eg2]) hne⟩
    rw [eg2] at e2
    refine ⟨_, _, dp_ii (s11 _ _ e1), dp_ii e2, sh_ii _ _, sh_ii _ _, _, rfl, ?_⟩
    rw [eq_ii]
    have s0 := s10.trans s11
    refine iteF ⟨v, rfl, .ref pl, rfl, szl (by show 1 ≤ 100000; decide), fun p3 hp3 => ?_⟩
    have s1a := s0.trans (Same.new (o := .lst [.int 0]) hp3)
    refine ⟨pl, p3, _, _, rfl, rfl, s1a _ _ el, upd_same, szl (by rw [LL]; show 10000 + 1 ≤ 100000; decide), fun p4 hp4 => ?_⟩
    have s1b := s1a.trans (Same.new (o := .lst ((List.replicate 10000 (0 : Int)).map V.int ++ [.int 0])) hp4)
    refine ⟨v, .ref p4, wb, some ((List.replicate 10000 (0 : Int)).map D.int ++ [.int 0]), rfl, twl.mono (Le.of s1b), ok, ⟨p4, _, rfl, upd_same, (tpInts _).append (.cons (.int 0) .nil)⟩, fun p5 H12 s12 hp5 e5 => ?_⟩
    rw [told_over ok] at e5
    refine ⟨10, 4, rfl, rfl, ⟨by decide, by decide, by decide⟩, szl (by show 3 ≤ 100000; decide), fun p6 hp6 => ?_⟩
    have n56 : p5 ≠ p6 := ne_of_none e5 hp6
    refine ⟨_, _, dp_bad (j := 10000) (by rw [upd_ne n56]; exact e5), dp_bad (j := 10000) (by rw [upd_same]; rfl), sh_bad _, sh_bad _, _, rfl, ?_⟩
    rw [eq_bad]
    have s2 := (s1b.trans s12).trans (Same.new (o := .tup [.str "bad", .bl true, .int (10 ^ (4 : Int).toNat)]) hp6)
    refine iteF ?_
    -- the last entry is none
    refine ⟨v, rfl, .ref pl, rfl, 1, rfl, pl, _, rfl, SqL.of (s2 _ _ el), fun q1 hq1 => ⟨szl (by show 1 ≤ 100000; decide), fun q2 hq2 => ?_⟩⟩
    have ecd : cutV ((List.replicate 10000 (0 : Int)).map V.int) (some 1) none = (List.replicate 9999 (0 : Int)).map V.int := by
      rw [cut_drop (by decide), ← List.map_drop, List.drop_replicate, show 10000 - (1 : Int).toNat = 9999 by decide]
    rw [ecd] at hq2 ⊢
    have LM : ((List.replicate 9999 (0 : Int)).map V.int).length = 9999 := by rw [List.length_map, List.length_replicate]
    have n12 : q1 ≠ q2 := ne_of_none upd_same hq2
    refine ⟨q1, q2, _, _, rfl, rfl, by rw [upd_ne n12]; exact upd_same, upd_same, szl (by rw [LM]; show 9999 + 1 ≤ 100000; decide), fun q3 hq3 => ?_⟩
    have s3 := ((s2.trans (Same.new (o := .lst ((List.replicate 9999 (0 : Int)).map V.int)) hq1)).trans (Same.new (o := .lst [.int 99]) hq2)).trans (Same.new (o := .lst ((List.replicate 9999 (0 : Int)).map V.int ++ [.int 99])) hq3)
    refine ⟨v, .ref q3, wb, some ((List.replicate 9999 (0 : Int)).map D.int ++ [.int 99]), rfl, twl.mono (Le.of s3), ok, ⟨q3, _, rfl, upd_same, (tpInts _).append (.cons (.int 99) .nil)⟩, fun q4 H13 s13 hq4 e13 => ⟨szl (by show 3 ≤ 100000; decide), fun q5 hq5 => ?_⟩⟩
    rw [told_last ok] at e13
    have n45 : q4 ≠ q5 := ne_of_none e13 hq5
    refine ⟨_, _, dp_bad (by rw [upd_ne n45]; exact e13), dp_bad upd_same, sh_bad _, sh_bad _, _, rfl, ?_⟩
    rw [eq_bad]
    have s4 := (s3.trans s13).trans (Same.new (o := .tup [.str "bad", .bl true, .int 9999]) hq5)
    refine iteF ⟨v, rfl, .ref pl, rfl, szl (by show 1 ≤ 100000; decide), fun r1 hr1 => ?_⟩
    have s5a := s4.trans (Same.new (o := .lst [.int 99]) hr1)
    refine ⟨pl, r1, _, _, rfl, rfl, s5a _ _ el, upd_same, szl (by rw [LL]; show 10000 + 1 ≤ 100000; decide), fun r2 hr2 => ?_⟩
    have s5b := s5a.trans (Same.new (o := .lst ((List.replicate 10000 (0 : Int)).map V.int ++ [.int 99])) hr2)
    refine ⟨v, .ref r2, wb, some ((List.replicate 10000 (0 : Int)).map D.int ++ [.int 99]), rfl, twl.mono (Le.of s5b), ok, ⟨r2, _, rfl, upd_same, (tpInts _).append (.cons (.int 99) .nil)⟩, fun r3 H14 s14 hr3 e14 => ?_⟩
    rw [told_over ok] at e14
    refine ⟨10, 4, rfl, rfl, ⟨by decide, by decide, by decide⟩, szl (by show 3 ≤ 100000; decide), fun r4 hr4 => ?_⟩
    have n34 : r3 ≠ r4 := ne_of_none e14 hr4
    refine ⟨_, _, dp_bad (j := 10000) (by rw [upd_ne n34]; exact e14), dp_bad (j := 10000) (by rw [upd_same]; rfl), sh_bad _, sh_bad _, ?_⟩
    rw [eq_bad]
    exact q _
end
end K02

set_option maxHeartbeats 4000000
namespace K02
open PySem PySem.Spec PyProof.Rows L2 Pd
theorem all_mk {l : PySem.W.OpenLaw} {w : World} {K : PySem.W.Frag} {h : Heap} {mg : Str → Option Value} {fa f0 f1 f2 f3 f4 f5 f6 f7 f8 f9 f10 f11 f12 f13 f14 f15 f16 f17 : Addr} (X : K.In h) (G : h.Ns mainGlobals mg) (hfa : mg "law" = some (.ref fa))
    {od0 an0 : Option Addr} {sl0 : Array (Option Value)} {oc0 kV0 dc0 pm0 cd0 ct0 : Value}
    {T0 : Addr} {oT0 : Obj}
    (a0 : PySem.W.nsIn K mainGlobals "is_integer" = some (some (.ref f0))) (l0 : K.lookup f0 = some ⟨oc0, od0, .func (PySem.W.fnOf "is_integer" "is_integer" (defArgs s_is_integer) (defBody s_is_integer) (defScope s_is_integer) (.ref T0) kV0 dc0 pm0 an0 cd0 ct0), sl0⟩) (c0 : PySem.W.codeIn K cd0 "is_integer" = true) (k0 : PySem.W.keepIn K (.ref f0) = true)
    (t0 : K.lookup T0 = some oT0) (u0 : oT0.data = .seq ([.none, .none] : List Value).toArray 0)
    {od1 an1 : Option Addr} {sl1 : Array (Option Value)} {oc1 kV1 dc1 pm1 cd1 ct1 : Value}
    (a1 : PySem.W.nsIn K mainGlobals "is_node" = some (some (.ref f1))) (l1 : K.lookup f1 = some ⟨oc1, od1, .func (PySem.W.fnOf "is_node" "is_node" (defArgs s_is_node) (defBody s_is_node) (defScope s_is_node) .none kV1 dc1 pm1 an1 cd1 ct1), sl1⟩) (c1 : PySem.W.codeIn K cd1 "is_node" = true) (k1 : PySem.W.keepIn K (.ref f1) = true)
    {od2 an2 : Option Addr} {sl2 : Array (Option Value)} {oc2 kV2 dc2 pm2 cd2 ct2 : Value}
    (a2 : PySem.W.nsIn K mainGlobals "is_web" = some (some (.ref f2))) (l2 : K.lookup f2 = some ⟨oc2, od2, .func (PySem.W.fnOf "is_web" "is_web" (defArgs s_is_web) (defBody s_is_web) (defScope s_is_web) .none kV2 dc2 pm2 an2 cd2 ct2), sl2⟩) (c2 : PySem.W.codeIn K cd2 "is_web" = true) (k2 : PySem.W.keepIn K (.ref f2) = true)
    {od3 an3 : Option Addr} {sl3 : Array (Option Value)} {oc3 kV3 dc3 pm3 cd3 ct3 : Value}
    (a3 : PySem.W.nsIn K mainGlobals "need_web" = some (some (.ref f3))) (l3 : K.lookup f3 = some ⟨oc3, od3, .func (PySem.W.fnOf "need_web" "need_web" (defArgs s_need_web) (defBody s_need_web) (defScope s_need_web) .none kV3 dc3 pm3 an3 cd3 ct3), sl3⟩) (c3 : PySem.W.codeIn K cd3 "need_web" = true) (k3 : PySem.W.keepIn K (.ref f3) = true)
    {od4 an4 : Option Addr} {sl4 : Array (Option Value)} {oc4 kV4 dc4 pm4 cd4 ct4 : Value}
    (a4 : PySem.W.nsIn K mainGlobals "walked" = some (some (.ref f4))) (l4 : K.lookup f4 = some ⟨oc4, od4, .func (PySem.W.fnOf "walked" "walked" (defArgs s_walked) (defBody s_walked) (defScope s_walked) .none kV4 dc4 pm4 an4 cd4 ct4), sl4⟩) (c4 : PySem.W.codeIn K cd4 "walked" = true) (k4 : PySem.W.keepIn K (.ref f4) = true)
    {od5 an5 : Option Addr} {sl5 : Array (Option Value)} {oc5 kV5 dc5 pm5 cd5 ct5 : Value}
    (a5 : PySem.W.nsIn K mainGlobals "walk_end" = some (some (.ref f5))) (l5 : K.lookup f5 = some ⟨oc5, od5, .func (PySem.W.fnOf "walk_end" "walk_end" (defArgs s_walk_end) (defBody s_walk_end) (defScope s_walk_end) .none kV5 dc5 pm5 an5 cd5 ct5), sl5⟩) (c5 : PySem.W.codeIn K cd5 "walk_end" = true) (k5 : PySem.W.keepIn K (.ref f5) = true)
    {od6 an6 : Option Addr} {sl6 : Array (Option Value)} {oc6 kV6 dc6 pm6 cd6 ct6 : Value}
    (a6 : PySem.W.nsIn K mainGlobals "met_in" = some (some (.ref f6))) (l6 : K.lookup f6 = some ⟨oc6, od6, .func (PySem.W.fnOf "met_in" "met_in" (defArgs s_met_in) (defBody s_met_in) (defScope s_met_in) .none kV6 dc6 pm6 an6 cd6 ct6), sl6⟩) (c6 : PySem.W.codeIn K cd6 "met_in" = true) (k6 : PySem.W.keepIn K (.ref f6) = true)
    {od7 an7 : Option Addr} {sl7 : Array (Option Value)} {oc7 kV7 dc7 pm7 cd7 ct7 : Value}
    (a7 : PySem.W.nsIn K mainGlobals "nodes_met" = some (some (.ref f7))) (l7 : K.lookup f7 = some ⟨oc7, od7, .func (PySem.W.fnOf "nodes_met" "nodes_met" (defArgs s_nodes_met) (defBody s_nodes_met) (defScope s_nodes_met) .none kV7 dc7 pm7 an7 cd7 ct7), sl7⟩) (c7 : PySem.W.codeIn K cd7 "nodes_met" = true) (k7 : PySem.W.keepIn K (.ref f7) = true)
    {od8 an8 : Option Addr} {sl8 : Array (Option Value)} {oc8 kV8 dc8 pm8 cd8 ct8 : Value}
    (a8 : PySem.W.nsIn K mainGlobals "_law_hand" = some (some (.ref f8))) (l8 : K.lookup f8 = some ⟨oc8, od8, .func (PySem.W.fnOf "_law_hand" "_law_hand" (defArgs s__law_hand) (defBody s__law_hand) (defScope s__law_hand) .none kV8 dc8 pm8 an8 cd8 ct8), sl8⟩) (c8 : PySem.W.codeIn K cd8 "_law_hand" = true) (k8 : PySem.W.keepIn K (.ref f8) = true)
    {od9 an9 : Option Addr} {sl9 : Array (Option Value)} {oc9 kV9 dc9 pm9 cd9 ct9 : Value}
    (a9 : PySem.W.nsIn K mainGlobals "_law_draw" = some (some (.ref f9))) (l9 : K.lookup f9 = some ⟨oc9, od9, .func (PySem.W.fnOf "_law_draw" "_law_draw" (defArgs s__law_draw) (defBody s__law_draw) (defScope s__law_draw) .none kV9 dc9 pm9 an9 cd9 ct9), sl9⟩) (c9 : PySem.W.codeIn K cd9 "_law_draw" = true) (k9 : PySem.W.keepIn K (.ref f9) = true)
    {od10 an10 : Option Addr} {sl10 : Array (Option Value)} {oc10 kV10 dc10 pm10 cd10 ct10 : Value}
    (a10 : PySem.W.nsIn K mainGlobals "_law_web" = some (some (.ref f10))) (l10 : K.lookup f10 = some ⟨oc10, od10, .func (PySem.W.fnOf "_law_web" "_law_web" (defArgs s__law_web) (defBody s__law_web) (defScope s__law_web) .none kV10 dc10 pm10 an10 cd10 ct10), sl10⟩) (c10 : PySem.W.codeIn K cd10 "_law_web" = true) (k10 : PySem.W.keepIn K (.ref f10) = true)
    {od11 an11 : Option Addr} {sl11 : Array (Option Value)} {oc11 kV11 dc11 pm11 cd11 ct11 : Value}
    (a11 : PySem.W.nsIn K mainGlobals "_law_met" = some (some (.ref f11))) (l11 : K.lookup f11 = some ⟨oc11, od11, .func (PySem.W.fnOf "_law_met" "_law_met" (defArgs s__law_met) (defBody s__law_met) (defScope s__law_met) .none kV11 dc11 pm11 an11 cd11 ct11), sl11⟩) (c11 : PySem.W.codeIn K cd11 "_law_met" = true) (k11 : PySem.W.keepIn K (.ref f11) = true)
    {od12 an12 : Option Addr} {sl12 : Array (Option Value)} {oc12 kV12 dc12 pm12 cd12 ct12 : Value}
    (a12 : PySem.W.nsIn K mainGlobals "_law_walk" = some (some (.ref f12))) (l12 : K.lookup f12 = some ⟨oc12, od12, .func (PySem.W.fnOf "_law_walk" "_law_walk" (defArgs s__law_walk) (defBody s__law_walk) (defScope s__law_walk) .none kV12 dc12 pm12 an12 cd12 ct12), sl12⟩) (c12 : PySem.W.codeIn K cd12 "_law_walk" = true) (k12 : PySem.W.keepIn K (.ref f12) = true)
    {od13 an13 : Option Addr} {sl13 : Array (Option Value)} {oc13 kV13 dc13 pm13 cd13 ct13 : Value}
    (a13 : PySem.W.nsIn K mainGlobals "_law_sum" = some (some (.ref f13))) (l13 : K.lookup f13 = some ⟨oc13, od13, .func (PySem.W.fnOf "_law_sum" "_law_sum" (defArgs s__law_sum) (defBody s__law_sum) (defScope s__law_sum) .none kV13 dc13 pm13 an13 cd13 ct13), sl13⟩) (c13 : PySem.W.codeIn K cd13 "_law_sum" = true) (k13 : PySem.W.keepIn K (.ref f13) = true)
    {od14 an14 : Option Addr} {sl14 : Array (Option Value)} {oc14 kV14 dc14 pm14 cd14 ct14 : Value}
    (a14 : PySem.W.nsIn K mainGlobals "_law_told" = some (some (.ref f14))) (l14 : K.lookup f14 = some ⟨oc14, od14, .func (PySem.W.fnOf "_law_told" "_law_told" (defArgs s__law_told) (defBody s__law_told) (defScope s__law_told) .none kV14 dc14 pm14 an14 cd14 ct14), sl14⟩) (c14 : PySem.W.codeIn K cd14 "_law_told" = true) (k14 : PySem.W.keepIn K (.ref f14) = true)
    {od15 an15 : Option Addr} {sl15 : Array (Option Value)} {oc15 kV15 dc15 pm15 cd15 ct15 : Value}
    (a15 : PySem.W.nsIn K mainGlobals "_law_spoilt" = some (some (.ref f15))) (l15 : K.lookup f15 = some ⟨oc15, od15, .func (PySem.W.fnOf "_law_spoilt" "_law_spoilt" (defArgs s__law_spoilt) (defBody s__law_spoilt) (defScope s__law_spoilt) .none kV15 dc15 pm15 an15 cd15 ct15), sl15⟩) (c15 : PySem.W.codeIn K cd15 "_law_spoilt" = true) (k15 : PySem.W.keepIn K (.ref f15) = true)
    {od16 an16 : Option Addr} {sl16 : Array (Option Value)} {oc16 kV16 dc16 pm16 cd16 ct16 : Value}
    (a16 : PySem.W.nsIn K mainGlobals "_law_right" = some (some (.ref f16))) (l16 : K.lookup f16 = some ⟨oc16, od16, .func (PySem.W.fnOf "_law_right" "_law_right" (defArgs s__law_right) (defBody s__law_right) (defScope s__law_right) .none kV16 dc16 pm16 an16 cd16 ct16), sl16⟩) (c16 : PySem.W.codeIn K cd16 "_law_right" = true) (k16 : PySem.W.keepIn K (.ref f16) = true)
    {od17 an17 : Option Addr} {sl17 : Array (Option Value)} {oc17 kV17 dc17 pm17 cd17 ct17 : Value}
    (a17 : PySem.W.nsIn K mainGlobals "law" = some (some (.ref f17))) (l17 : K.lookup f17 = some ⟨oc17, od17, .func (PySem.W.fnOf "law" "law" (defArgs s_law) (defBody s_law) (defScope s_law) .none kV17 dc17 pm17 an17 cd17 ct17), sl17⟩) (c17 : PySem.W.codeIn K cd17 "law" = true) (k17 : PySem.W.keepIn K (.ref f17) = true)
    (z0 : PySem.W.nsIn K mainGlobals "len" = some none)
    (z1 : PySem.W.nsIn K mainGlobals "range" = some none)
    (z2 : PySem.W.nsIn K mainGlobals "isinstance" = some none)
    (z3 : PySem.W.nsIn K mainGlobals "int" = some none)
    (z4 : PySem.W.nsIn K mainGlobals "bool" = some none)
    (z5 : PySem.W.nsIn K mainGlobals "tuple" = some none)
    (z6 : PySem.W.nsIn K mainGlobals "list" = some none)
    (z7 : PySem.W.nsIn K mainGlobals "abs" = some none)
    (z8 : PySem.W.nsIn K mainGlobals "all" = some none)
    (z9 : PySem.W.nsIn K mainGlobals "max" = some none)
    (z10 : PySem.W.nsIn K mainGlobals "min" = some none)
    (z11 : PySem.W.nsIn K mainGlobals "enumerate" = some none)
    (z12 : PySem.W.nsIn K mainGlobals "sorted" = some none)
    (z13 : PySem.W.nsIn K mainGlobals "repr" = some none)
    {tk0 : Tok} (con0 : PySem.W.nsIn K mainGlobals "MOST_NODES" = some (some (.int 120 tk0)))
    {tk1 : Tok} (con1 : PySem.W.nsIn K mainGlobals "MOST_MOVES" = some (some (.int 12 tk1)))
    {tk2 : Tok} (con2 : PySem.W.nsIn K mainGlobals "MOST_WEIGHT" = some (some (.int 1000000 tk2)))
    {tk3 : Tok} (con3 : PySem.W.nsIn K mainGlobals "MOST_WALK" = some (some (.int 10000 tk3)))
    {C fI D cda cc : Addr} {nmC qC : Str} {NC : Addr} {bsC : List Value} {snC : List Str} {subC : List Value} {abC : Bool} {colC : Option Bool} {ddC : Option Addr} {m0 m1 m2 m3 m5 : Option Value}
    {ocI kVI dcI pmI ctI : Value} {odI anI : Option Addr} {slI : Array (Option Value)} {txt : Str} {jI : Nat} {p1 p2 q1 q2 q3 q4 q5 q6 q7 q8 q9 q10 : Pos} {ccl : Value} {cdd : Option Addr} {vsI : Array Value} {ccs : Array (Option Value)} {file : Str} {tf : Tok} {cl : Value} {cld : Option Addr} {csl : Array (Option Value)}
    (aC : PySem.W.nsIn K mainGlobals "BadWalk" = some (some (.ref C))) (aD : PySem.W.nsIn K mainGlobals "ParlourError" = some (some (.ref D)))
    (xC : K.lookup C = some (PySem.excClassObj nmC qC C NC bsC [.ref D, .type "ValueError", .type "Exception", .type "BaseException", .type "object"] true snC subC abC colC ddC m0 m1 m2 m3 m5 "ValueError.__new__"))
    (sa : PySem.W.findIn K (.ref C) "__setattr__" = some (some (.builtin "object.__setattr__"))) (ga : PySem.W.findIn K (.ref C) "__getattribute__" = some (some (.builtin "BaseException.__getattribute__"))) (gg : PySem.W.findIn K (.ref C) "__getattr__" = some none) (noN : PySem.W.findIn K (.ref C) "place" = some none) (iC : PySem.W.findIn K (.ref C) "__init__" = some (some (.ref fI))) (tC : PySem.W.typeIn K (.ref fI) = some (.type "function")) (kC : PySem.W.keepIn K (.ref C) = true) (exC : PySem.W.subIn K (.ref C) (.type "BaseException") = some true) (veC : PySem.W.subIn K (.ref C) (.type "ValueError") = some true) (tyC : PySem.W.typeIn K (.ref C) = some (.type "type")) (hdC : PySem.W.hasDictIn K C = true) (su : PySem.W.ks_superIn K C C "__init__" = some (some (.builtin "ValueError.__init__"))) (mr : PySem.W.mroIn K C (.ref C) = some true) (opq : PySem.W.nsIn K cStatics "thirdparty.any" = some none) (msu : PySem.W.nsIn K mainGlobals "super" = some none) (top : (l.prog.main.scope.names.lookup ("super" : Str)).isSome = false) (lI : K.lookup fI = some ⟨ocI, odI, .func (PySem.W.ksFn "__init__" "BadWalk.__init__" (PySem.PlX.iA p1 p2) (PySem.PlX.iB txt jI q1 q2 q3 q4 q5 q6 q7 q8 q9 q10) PySem.PlX.iS .none kVI dcI pmI anI (.ref cda) ctI cc), slI⟩) (cI : PySem.W.codeIn K (.ref cda) "BadWalk.__init__" = true) (lcd : K.lookup cda = some ⟨ccl, cdd, .fields vsI, ccs⟩) (vs2 : vsI[2]? = some (.str file tf)) (fil : ((l.prog.main.file : Str) == file) = true) (lcc : K.lookup cc = some ⟨cl, cld, .cell (some (.ref C)), csl⟩) (evo : PySem.PlX.EvOk "BadWalk.__init__" txt jI q1 q2 q3 q4 q5) (cls : PySem.W.findIn K (.ref C) "__class__" = some (some (.builtin "object.__class__"))) (spg : PySem.W.specialIn K (.builtin "object.__class__") "__get__" = some (some (.builtin "getset_descriptor.__get__"))) (tki : PySem.W.takesIn K (.builtin "object.__class__") = some true) (mro : PySem.W.mroIn K C (.type "object") = some true) (exD : PySem.W.subIn K (.ref D) (.type "BaseException") = some true) (hdD : PySem.W.hasDictIn K D = true) (tyD : PySem.W.typeIn K (.ref D) = some (.type "type")) (sCD : PySem.W.subIn K (.ref C) (.ref D) = some true)
    : ∃ fd : FuncData, (∀ (s : Shared) (v : Value), BindsTo s fd ⟨[v], []⟩ [("_law_script", v)]) ∧ ∀ base : Heap, K.In base → base.Ns mainGlobals mg → FnG l.prog w K mg base 8 fa fd ["_law_script"] (spLaw K) := by
  have e := hfa.symm.trans (PySem.W.mg_of X G a17)
  cases e
  have T : Txt mg := { m_len := PySem.W.mg_none_of X G z0, m_range := PySem.W.mg_none_of X G z1, m_isinstance := PySem.W.mg_none_of X G z2, m_int := PySem.W.mg_none_of X G z3, m_bool := PySem.W.mg_none_of X G z4, m_tuple := PySem.W.mg_none_of X G z5, m_list := PySem.W.mg_none_of X G z6, m_abs := PySem.W.mg_none_of X G z7, m_all := PySem.W.mg_none_of X G z8, m_max := PySem.W.mg_none_of X G z9, m_min := PySem.W.mg_none_of X G z10, m_enumerate := PySem.W.mg_none_of X G z11, m_sorted := PySem.W.mg_none_of X G z12, m_repr := PySem.W.mg_none_of X G z13, g_MOST_NODES := ⟨_, PySem.W.mg_of X G con0, _, rfl⟩, g_MOST_MOVES := ⟨_, PySem.W.mg_of X G con1, _, rfl⟩, g_MOST_WEIGHT := ⟨_, PySem.W.mg_of X G con2, _, rfl⟩, g_MOST_WALK := ⟨_, PySem.W.mg_of X G con3, _, rfl⟩ }
  have F0 : FunD K "is_integer" "is_integer" (defArgs s_is_integer) (defBody s_is_integer) (defScope s_is_integer) [.non, .non] [] f0 (PySem.W.fnOf "is_integer" "is_integer" (defArgs s_is_integer) (defBody s_is_integer) (defScope s_is_integer) (.ref T0) kV0 dc0 pm0 an0 cd0 ct0) := ⟨⟨_, _, _, _, _, _, _, _, _, _, rfl, l0, c0, .inr ⟨(by intro z; cases z), T0, _, [.none, .none], 0, rfl, t0, u0, .cons rfl (.cons rfl (.nil))⟩, .inl rfl⟩, k0⟩
  have b0 : Binds K (PySem.W.fnOf "is_integer" "is_integer" (defArgs s_is_integer) (defBody s_is_integer) (defScope s_is_integer) (.ref T0) kV0 dc0 pm0 an0 cd0 ct0) ["thing", "low", "high"] [] := by
    obtain ⟨ds, hd, hb⟩ := F0.binds1 (ps := ["thing", "low", "high"]) 3 2 (by intro z; cases z) rfl (fun T kV doc pm an cdv ct us its hu hi => match us, its, hu, hi with | [_, _, _], [_, _], _, _ => ⟨_, rfl, rfl⟩)
    cases hd
    exact hb
  have F1 := fun_mk (st := s_is_node) l1 c1 k1
  have b1 := F1.binds (ps := ["thing", "many"]) fun _ _ _ _ _ _ us hl => match us, hl with | [_, _], _ => rfl
  have F2 := fun_mk (st := s_is_web) l2 c2 k2
  have b2 := F2.binds (ps := ["thing"]) fun _ _ _ _ _ _ us hl => match us, hl with | [_], _ => rfl
  have F3 := fun_mk (st := s_need_web) l3 c3 k3
  have b3 := F3.binds (ps := ["thing"]) fun _ _ _ _ _ _ us hl => match us, hl with | [_], _ => rfl
  have F4 := fun_mk (st := s_walked) l4 c4 k4
  have b4 := F4.binds (ps := ["moves", "walk"]) fun _ _ _ _ _ _ us hl => match us, hl with | [_, _], _ => rfl
  have F5 := fun_mk (st := s_walk_end) l5 c5 k5
  have b5 := F5.binds (ps := ["web", "walk"]) fun _ _ _ _ _ _ us hl => match us, hl with | [_, _], _ => rfl
  have F6 := fun_mk (st := s_met_in) l6 c6 k6
  have b6 := F6.binds (ps := ["moves", "start"]) fun _ _ _ _ _ _ us hl => match us, hl with | [_, _], _ => rfl
  have F7 := fun_mk (st := s_nodes_met) l7 c7 k7
  have b7 := F7.binds (ps := ["web"]) fun _ _ _ _ _ _ us hl => match us, hl with | [_], _ => rfl
  have F8 := fun_mk (st := s__law_hand) l8 c8 k8
  have b8 := F8.binds (ps := ["_law_script"]) fun _ _ _ _ _ _ us hl => match us, hl with | [_], _ => rfl
  have F9 := fun_mk (st := s__law_draw) l9 c9 k9
  have b9 := F9.binds (ps := ["_law_hand_here", "_law_size"]) fun _ _ _ _ _ _ us hl => match us, hl with | [_, _], _ => rfl
  have F10 := fun_mk (st := s__law_web) l10 c10 k10
  have b10 := F10.binds (ps := ["_law_hand_here", "_law_most"]) fun _ _ _ _ _ _ us hl => match us, hl with | [_, _], _ => rfl
  have F11 := fun_mk (st := s__law_met) l11 c11 k11
  have b11 := F11.binds (ps := ["_law_net", "_law_start"]) fun _ _ _ _ _ _ us hl => match us, hl with | [_, _], _ => rfl
  have F12 := fun_mk (st := s__law_walk) l12 c12 k12
  have b12 := F12.binds (ps := ["_law_hand_here", "_law_net", "_law_start", "_law_most"]) fun _ _ _ _ _ _ us hl => match us, hl with | [_, _, _, _], _ => rfl
  have F13 := fun_mk (st := s__law_sum) l13 c13 k13
  have b13 := F13.binds (ps := ["_law_net", "_law_path"]) fun _ _ _ _ _ _ us hl => match us, hl with | [_, _], _ => rfl
  have F14 := fun_mk (st := s__law_told) l14 c14 k14
  have b14 := F14.binds (ps := ["_law_net", "_law_path"]) fun _ _ _ _ _ _ us hl => match us, hl with | [_, _], _ => rfl
  have F15 := fun_mk (st := s__law_spoilt) l15 c15 k15
  have b15 := F15.binds (ps := ["_law_hand_here", "_law_net", "_law_path"]) fun _ _ _ _ _ _ us hl => match us, hl with | [_, _, _], _ => rfl
  have F16 := fun_mk (st := s__law_right) l16 c16 k16
  have b16 := F16.binds (ps := ["_law_hand_here", "_law_net"]) fun _ _ _ _ _ _ us hl => match us, hl with | [_, _], _ => rfl
  have F17 := fun_mk (st := s_law) l17 c17 k17
  have b17 := F17.binds (ps := ["_law_script"]) fun _ _ _ _ _ _ us hl => match us, hl with | [_], _ => rfl
  refine ⟨PySem.W.fnOf "law" "law" (defArgs s_law) (defBody s_law) (defScope s_law) .none kV17 dc17 pm17 an17 cd17 ct17, fun s v => .of_eq rfl, fun base _ _ => ?_⟩
  have B : TxtE l.prog K mg C fI D := ⟨⟨PySem.W.mg_of X G aC, ⟨nmC, qC, NC, bsC, _, snC, subC, abC, colC, ddC, m0, m1, m2, m3, m5, xC, by rfl⟩, sa, ga, gg, noN, iC, tC, kC, exC, veC, tyC, hdC, su, mr, opq, PySem.W.mg_none_of X G msu, top,
    ⟨_, _, _, _, _, _, _, _, _, _, _, _, _, _, _, _, _, _, _, _, _, _, _, _, _, _, _, _, _, _, _, _, _, lI, cI, lcd, vs2, fil, lcc, evo⟩⟩, ⟨cls, spg, tki, mro⟩, PySem.W.mg_of X G aD, PySem.W.exm_ref exD hdD tyD sCD⟩
  have qd : mg "_law_draw" = some (.ref f9) := PySem.W.mg_of X G a9
  have d0 : Fn l.prog w K mg base 0 "_law_draw" (spDraw 0) := ⟨_, _, _, ok_draw0, qd, k9, b9⟩
  have d1 : Fn l.prog w K mg base 1 "_law_draw" (spDraw 1000000) := ⟨_, _, _, ok_drawS (by decide) (fun n h1 h2 => absurd h1 (by omega)) F9 T d0, qd, k9, b9⟩
  have d2 : Fn l.prog w K mg base 2 "_law_draw" (spDraw 1000000000) := ⟨_, _, _, ok_drawS (by decide) (fun n h1 h2 => by omega) F9 T d1, qd, k9, b9⟩
  have ci : Fn l.prog w K mg base 1 "is_integer" (spIsInteger K) := ⟨_, _, _, ok_is_integer F0 T, PySem.W.mg_of X G a0, k0, b0⟩
  have cn : Fn l.prog w K mg base 2 "is_node" (spIsNode K) := ⟨_, _, _, ok_is_node F1 T ci, PySem.W.mg_of X G a1, k1, b1⟩
  have cw : Fn l.prog w K mg base 3 "is_web" (spIsWeb K) := ⟨_, _, _, ok_is_web F2 T cn, PySem.W.mg_of X G a2, k2, b2⟩
  have cnd : Fn l.prog w K mg base 4 "need_web" (spNeed K) := ⟨_, _, _, ok_need_web F3 T cw, PySem.W.mg_of X G a3, k3, b3⟩
  have cwd : Fn l.prog w K mg base 4 "walked" (spWalked K) := ⟨_, _, _, (ok_walked F4 T ci : FnOk l.prog w K mg base CX0 2 _ _ _ (spWalked K)).mono (by decide), PySem.W.mg_of X G a4, k4, b4⟩
  have oe := ok_walk_end (P := l.prog) (w := w) (base := base) F5 T B cnd cwd
  have cex : FnX l.prog w K mg base 5 "walk_end" (spEnd C K) := ⟨_, _, _, oe, PySem.W.mg_of X G a5, k5, b5⟩
  have og : FnOk l.prog w K mg base CX0 6 _ _ ["web", "walk"] (spEndG K) := (calmFn oe (fun vs H Q E ⟨v, x, wb, o, e1, e2, e3, e4, e5, e6⟩ => ⟨v, x, wb, o, e1, e2, e3, e4, fun _ => e6, fun k hk => by rw [e5] at hk; cases hk⟩)).mono (by decide)
  have ceg : Fn l.prog w K mg base 6 "walk_end" (spEndG K) := ⟨_, _, _, og, PySem.W.mg_of X G a5, k5, b5⟩
  have cek : FnK l.prog w K mg base 6 "walk_end" ["walk", "web"] (fun vs zs => vs ++ zs.reverse) (spEndG K) := ⟨_, _, _, fun us ws => us ++ ws.reverse, og, PySem.W.mg_of X G a5, k5, ⟨fun s us ws _ hu hw => match us, ws, hu, hw with | [], [_, _], _, _ => .of_eq rfl, fun r1 r2 => r1.append r2.reverse⟩⟩
  have cmi : Fn l.prog w K mg base 4 "met_in" (spMet K) := ⟨_, _, _, (ok_met_in F6 T : FnOk l.prog w K mg base CX0 1 _ _ _ (spMet K)).mono (by decide), PySem.W.mg_of X G a6, k6, b6⟩
  have on : FnOk l.prog w K mg base CX0 6 _ _ ["web"] (spNodes K) := (ok_nodes_met F7 T cnd cmi).mono (by decide)
  have cno : Fn l.prog w K mg base 6 "nodes_met" (spNodes K) := ⟨_, _, _, on, PySem.W.mg_of X G a7, k7, b7⟩
  have cnk : FnK l.prog w K mg base 6 "nodes_met" ["web"] (fun vs zs => vs ++ zs) (spNodes K) := ⟨_, _, _, fun us ws => us ++ ws, on, PySem.W.mg_of X G a7, k7, ⟨fun s us ws _ hu hw => match us, ws, hu, hw with | [], [_], _, _ => .of_eq rfl, fun r1 r2 => r1.append r2⟩⟩
  have ch : Fn l.prog w K mg base 1 "_law_hand" (spHand K) := ⟨_, _, _, ok_hand F8 T, PySem.W.mg_of X G a8, k8, b8⟩
  have cv : Fn l.prog w K mg base 3 "_law_web" (spWeb K) := ⟨_, _, _, ok_web F10 T d2, PySem.W.mg_of X G a10, k10, b10⟩
  have cme : Fn l.prog w K mg base 6 "_law_met" (spMet K) := ⟨_, _, _, (ok_law_met F11 T : FnOk l.prog w K mg base CX0 1 _ _ _ (spMet K)).mono (by decide), PySem.W.mg_of X G a11, k11, b11⟩
  have cwk : Fn l.prog w K mg base 6 "_law_walk" (spWalk K) := ⟨_, _, _, (ok_law_walk F12 T d2).mono (by decide), PySem.W.mg_of X G a12, k12, b12⟩
  have os : FnOk l.prog w K mg base CX0 2 _ _ ["_law_net", "_law_path"] (spSum K) := (ok_law_sum F13 T : FnOk l.prog w K mg base CX0 1 _ _ _ (spSum K)).mono (by decide)
  have csu : Fn l.prog w K mg base 6 "_law_sum" (spSum K) := ⟨_, _, _, os.mono (by decide), PySem.W.mg_of X G a13, k13, b13⟩
  have csu2 : Fn l.prog w K mg base 2 "_law_sum" (spSum K) := ⟨_, _, _, os, PySem.W.mg_of X G a13, k13, b13⟩
  have cto : Fn l.prog w K mg base 6 "_law_told" (spTold K) := ⟨_, _, _, ok_told F14 T B cex, PySem.W.mg_of X G a14, k14, b14⟩
  have csp : Fn l.prog w K mg base 6 "_law_spoilt" (spSpoilt K) := ⟨_, _, _, (ok_spoilt F15 T d2 csu2).mono (by decide), PySem.W.mg_of X G a15, k15, b15⟩
  have cri : FnGn l.prog w K mg base 7 "_law_right" (spRight K) := ⟨_, _, _, ok_right F16 T cwk csu cto cek ceg csp cno cnk cme, PySem.W.mg_of X G a16, k16, b16⟩
  exact ok_law F17 T d2 ch cv cri cno ceg cto csu
end K02

open PySem PySem.W PyProof.Rows
set_option maxHeartbeats 0 in
theorem PySem.Challenge.cw_parlourday_k02_walks_and_where_they_lead_holds : PySem.Challenge.rw_parlourday_k02_walks_and_where_they_lead.Holds := by
  w_on; o_law; k_head; (case hw => w_witness2)
  k_fill
  refine Pd.walk_ofG (l := PySem.Challenge.rw_parlourday_k02_walks_and_where_they_lead) (n := 63) (k := 8) (x := "_law_script") (sp := fun w => K02.spLaw _) rfl (by decide) rfl ⟨rfl, by decide, by decide⟩ (fun w h Y => PySem.W.kIn_of Y) ?F (fun _ _ a ns hl _ hS => ⟨a, ns, rfl, hS, hl, fun _ => rfl⟩)
  case F =>
    intro w mg fa h KX G hmg
    refine' K02.all_mk KX G hmg ?a0 ?l0 ?c0 ?k0 ?t0 ?u0 ?a1 ?l1 ?c1 ?k1 ?a2 ?l2 ?c2 ?k2 ?a3 ?l3 ?c3 ?k3 ?a4 ?l4 ?c4 ?k4 ?a5 ?l5 ?c5 ?k5 ?a6 ?l6 ?c6 ?k6 ?a7 ?l7 ?c7 ?k7 ?a8 ?l8 ?c8 ?k8 ?a9 ?l9 ?c9 ?k9 ?a10 ?l10 ?c10 ?k10 ?a11 ?l11 ?c11 ?k11 ?a12 ?l12 ?c12 ?k12 ?a13 ?l13 ?c13 ?k13 ?a14 ?l14 ?c14 ?k14 ?a15 ?l15 ?c15 ?k15 ?a16 ?l16 ?c16 ?k16 ?a17 ?l17 ?c17 ?k17 ?z0 ?z1 ?z2 ?z3 ?z4 ?z5 ?z6 ?z7 ?z8 ?z9 ?z10 ?z11 ?z12 ?z13 ?con0 ?con1 ?con2 ?con3 ?aC ?aD ?xC ?sa ?ga ?gg ?noN ?iC ?tC ?kC ?exC ?veC ?tyC ?hdC ?su ?mr ?opq ?msu ?top ?lI ?cI ?lcd ?vs2 ?fil ?lcc ?evo ?cls ?spg ?tki ?mro ?exD ?hdD ?tyD ?sCD
    (case a0 => first | k_is | rfl)
    (case l0 => first | k_is | rfl)
    (case c0 => first | k_is | rfl)
    (case k0 => first | k_is | rfl)
    (case t0 => first | k_is | rfl)
    (case u0 => first | k_is | rfl)
    (case a1 => first | k_is | rfl)
    (case l1 => first | k_is | rfl)
    (case c1 => first | k_is | rfl)
    (case k1 => first | k_is | rfl)
    (case a2 => first | k_is | rfl)
    (case l2 => first | k_is | rfl)
    (case c2 => first | k_is | rfl)
    (case k2 => first | k_is | rfl)
    (case a3 => first | k_is | rfl)
    (case l3 => first | k_is | rfl)
    (case c3 => first | k_is | rfl)
    (case k3 => first | k_is | rfl)
    (case a4 => first | k_is | rfl)
    (case l4 => first | k_is | rfl)
    (case c4 => first | k_is | rfl)
    (case k4 => first | k_is | rfl)
    (case a5 => first | k_is | rfl)
    (case l5 => first | k_is | rfl)
    (case c5 => first | k_is | rfl)
    (case k5 => first | k_is | rfl)
    (case a6 => first | k_is | rfl)
    (case l6 => first | k_is | rfl)
    (case c6 => first | k_is | rfl)
    (case k6 => first | k_is | rfl)
    (case a7 => first | k_is | rfl)
    (case l7 => first | k_is | rfl)
    (case c7 => first | k_is | rfl)
    (case k7 => first | k_is | rfl)
    (case a8 => first | k_is | rfl)
    (case l8 => first | k_is | rfl)
    (case c8 => first | k_is | rfl)
    (case k8 => first | k_is | rfl)
    (case a9 => first | k_is | rfl)
    (case l9 => first | k_is | rfl)
    (case c9 => first | k_is | rfl)
    (case k9 => first | k_is | rfl)
    (case a10 => first | k_is | rfl)
    (case l10 => first | k_is | rfl)
    (case c10 => first | k_is | rfl)
    (case k10 => first | k_is | rfl)
    (case a11 => first | k_is | rfl)
    (case l11 => first | k_is | rfl)
    (case c11 => first | k_is | rfl)
    (case k11 => first | k_is | rfl)
    (case a12 => first | k_is | rfl)
    (case l12 => first | k_is | rfl)
    (case c12 => first | k_is | rfl)
    (case k12 => first | k_is | rfl)
    (case a13 => first | k_is | rfl)
    (case l13 => first | k_is | rfl)
    (case c13 => first | k_is | rfl)
    (case k13 => first | k_is | rfl)
    (case a14 => first | k_is | rfl)
    (case l14 => first | k_is | rfl)
    (case c14 => first | k_is | rfl)
    (case k14 => first | k_is | rfl)
    (case a15 => first | k_is | rfl)
    (case l15 => first | k_is | rfl)
    (case c15 => first | k_is | rfl)
    (case k15 => first | k_is | rfl)
    (case a16 => first | k_is | rfl)
    (case l16 => first | k_is | rfl)
    (case c16 => first | k_is | rfl)
    (case k16 => first | k_is | rfl)
    (case a17 => first | k_is | rfl)
    (case l17 => first | k_is | rfl)
    (case c17 => first | k_is | rfl)
    (case k17 => first | k_is | rfl)
    (case z0 => first | k_is | rfl)
    (case z1 => first | k_is | rfl)
    (case z2 => first | k_is | rfl)
    (case z3 => first | k_is | rfl)
    (case z4 => first | k_is | rfl)
    (case z5 => first | k_is | rfl)
    (case z6 => first | k_is | rfl)
    (case z7 => first | k_is | rfl)
    (case z8 => first | k_is | rfl)
    (case z9 => first | k_is | rfl)
    (case z10 => first | k_is | rfl)
    (case z11 => first | k_is | rfl)
    (case z12 => first | k_is | rfl)
    (case z13 => first | k_is | rfl)
    (case con0 => first | k_is | rfl)
    (case con1 => first | k_is | rfl)
    (case con2 => first | k_is | rfl)
    (case con3 => first | k_is | rfl)
    (case aC => first | k_is | rfl)
    (case aD => first | k_is | rfl)
    (case xC => first | k_is | rfl)
    (case sa => first | k_is | rfl)
    (case ga => first | k_is | rfl)
    (case gg => first | k_is | rfl)
    (case noN => first | k_is | rfl)
    (case iC => first | k_is | rfl)
    (case tC => first | k_is | rfl)
    (case kC => first | k_is | rfl)
    (case exC => first | k_is | rfl)
    (case veC => first | k_is | rfl)
    (case tyC => first | k_is | rfl)
    (case hdC => first | k_is | rfl)
    (case su => first | k_is | rfl)
    (case mr => first | k_is | rfl)
    (case opq => first | k_is | rfl)
    (case msu => first | k_is | rfl)
    (case top => rfl)
    (case lI => first | k_is | rfl)
    (case cI => first | k_is | rfl)
    (case lcd => first | k_is | rfl)
    (case vs2 => rfl)
    (case fil => first | rfl | decide +kernel)
    (case lcc => first | k_is | rfl)
    (case evo => exact fun L fa cd cc => ⟨_, rfl⟩)
    (case cls => first | k_is | rfl)
    (case spg => first | k_is | rfl)
    (case tki => first | k_is | rfl)
    (case mro => first | k_is | rfl)
    (case exD => first | k_is | rfl)
    (case hdD => first | k_is | rfl)
    (case tyD => first | k_is | rfl)
    (case sCD => first | rfl | k_is)
