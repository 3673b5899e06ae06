import PyProof.Rows.All
import Wide.All
import OpenK.AllK
import Wide.FinOn
import PyProof.EqAt
import PyProof.EqKinds
import PyProof.TupleCall
import HandS.ForMost
import HandS.Defaults
import HandS.IsInst
import HandS.TupAny
import HandS.TupMul
import HandS.Style
import HandS.Evl
import HandS.More
import HandS.SortInts
import KE.KDictKeyed
import KE.KDictWalk
import KE.DataEq
import HandS.Wide
import HandS.Zip
import KE.GoesMore
import KE.GoesEnum
import HandS.Deep
import HandS.Dict
import HandS.Star
import HandS.SetFor
import HandS.Strs
import HandS.Iter
import HandS.TryOnly
import KE.SortData
import KE.DataMinMax
import KE.DataCmp
import PyProof.Rows.SeqRoads
import PyProof.ReprLen
import PySem.Challenge.RW_parlourday_k19_setups_and_seat_rules_jud
set_option Elab.async false
set_option linter.all false
set_option maxRecDepth 100000
set_option maxHeartbeats 4000000
/-! Words of our own over the hand layer: a def by its name, data of tuples, the hand that draws. -/
namespace Pd
open PySem PySem.Spec PyProof.Rows L2

/-! ### a def under its name -/
structure Fn (P : Program) (w : World) (K : PySem.W.Frag) (mg : Str → Option Value) (base : Heap) (k : Nat) (x : Str) (sp : Sp) : Prop where
  ex : ∃ (f : Addr) (fd : FuncData) (ps : List Str), FnOk P w K mg base CX0 k f fd ps sp ∧ mg x = some (.ref f) ∧ PySem.W.keepIn K (.ref f) = true ∧ Binds K fd ps []
structure FnK (P : Program) (w : World) (K : PySem.W.Frag) (mg : Str → Option Value) (base : Heap) (k : Nat) (x : Str) (ks : List Str) (gV : List V → List V → List V) (sp : Sp) : Prop where
  ex : ∃ (f : Addr) (fd : FuncData) (ps : List Str) (g : List Value → List Value → List Value), FnOk P w K mg base CX0 k f fd ps sp ∧ mg x = some (.ref f) ∧ PySem.W.keepIn K (.ref f) = true ∧ KBn K fd ps 0 ks g gV
section
variable {X : Cx} {k j : Nat} {x : Str} {sp : Sp} {p pos : Pos} {e : Expr} {es : List Expr} {t tk : TA} {kws : List Keyword} {ks : List Str} {gV : List V → List V → List V}
theorem pe_f (c : Fn X.prog X.w X.K X.mg X.base k x sp) (hr : Room j X.A) (hk : k ≤ j) (hg : Gl X x) (ha : PA X (e :: es) t)
    (hdb : (x == ("__debug__" : Str)) = false := by decide) (he : starEach (e :: es) X.env = (false, eval e X.env) :: starEach es X.env := by rfl) (hpl : (backTo pos (starEach es X.env)).any (·.1) = false := by rfl) :
    PE X (.Call (.Name x p) (e :: es) [] pos) (tCall sp [] E0 t) := by
  obtain ⟨f, fd, ps, F, hm, kp, b⟩ := c.ex
  exact pe_call F (hr.mono hk) hg hm kp b .nil pass0 ha hdb he hpl
/-- f(k = v, ..) -/
theorem pe_fk (c : FnK X.prog X.w X.K X.mg X.base k x ks gV sp) (hr : Room j X.A) (hk : k ≤ j) (hg : Gl X x) (hkw : PK X kws tk)
    (hall : (backToKw pos (keywordEach kws X.env)).all (·.1.isSome) = true := by rfl) (hks : (backToKw pos (keywordEach kws X.env)).filterMap (·.1) = ks := by rfl) (hdb : (x == ("__debug__" : Str)) = false := by decide)
    (hpl : ((backTo pos (starEach [] X.env)).any (·.1) || (backToKw pos (keywordEach kws X.env)).any (·.1.isNone)) = false := by rfl) :
    PE X (.Call (.Name x p) [] kws pos) (tCallN 0 ks.length sp gV E0 tNil tk) := by
  obtain ⟨f, fd, ps, g, F, hm, kp, b⟩ := c.ex
  refine ⟨fun pins s σ H Q I h => ?_⟩
  refine wpAny_Call_Name_kw (ld_glob I hg hm ?_ hdb)
  refine PySem.W.callWith_KW0 (h₀ := X.base) I.ok.mod.kin kp hall ?_ hpl
  refine thn (hkw.run pos pins s σ H _ I h) fun ws s2 ⟨zs, H2, I2, rz, l1, l2, q2⟩ => ⟨I2.kIn, ?_⟩
  rw [hks]
  exact run_fnN (us := []) (vs := []) F (hr.mono hk) b pass0 I2 .nil rz rfl l2 q2
/-- a constant of the module, a built-in class -/
theorem pe_gl {v : V} (hg : Gl X x) (h : ∃ u, X.mg x = some u ∧ RelV v u) (hd : (x == ("__debug__" : Str)) = false := by decide) : PE X (.Name x pos) (tC v) := by
  obtain ⟨u, h1, h2⟩ := h
  exact pe_glob hg h1 h2 hd
theorem pe_ty {n : String} (hg : Gl X x) (hm : X.mg x = none) (hv : bootBuiltins x = some (.type n)) (hn : x ≠ "__name__" := by decide) (hd : (x == ("__debug__" : Str)) = false := by decide) : PE X (.Name x pos) (tC (.ty n)) :=
  pe_bltn hg hm hv rfl hn hd
end

/-- a comprehension without a test -/
theorem yes_rd {σ : L2.St} {H : Hp} {A B : Hp → Prop} (h : A H) : tYes σ H fun b H3 => if b = true then A H3 else B H3 := by
  show if true = true then A H else B H
  rw [if_pos rfl]
  exact h
/-! ### rules with the written part named (within a comprehension) -/
section
variable {X : Cx} {K : PySem.W.Frag}
theorem lenK (hK : X.K = K := by rfl) : CallR X (.builtin "len") (fun xs H Q => ∃ p ys, xs = [.ref p] ∧ (SqL K H p ys ∨ SqT K H p ys) ∧ Q (.int ys.length) H) := by
  subst hK; exact call_len_seq
theorem isiK (hK : X.K = K := by rfl) : CallR X (.builtin "isinstance") (rIsi K) := by
  subst hK; exact call_isi
theorem ixTK (hK : X.K = K := by rfl) : IxR X (rIxT K) := by
  subst hK; exact ix_tup
theorem ixLK (hK : X.K = K := by rfl) : IxR X (rIxL K) := by
  subst hK; exact ix_list
theorem catK (hK : X.K = K := by rfl) : OpR X (binaryOp .Add) (rCatA K) := by
  subst hK; exact op_catA
theorem slTK (hK : X.K = K := by rfl) : SlR X (rSlA K) := by
  subst hK; exact sl_tupA
theorem slLK (hK : X.K = K := by rfl) : SlR X (rSlL K) := by
  subst hK; exact sl_list
end

/-! ### t[::-1], a tuple -/
section
variable {X : Cx} {prog : Program} {w : World} {A : Around} {E : Value → Shared → Prop} {s : Shared}
theorem rev_adjust (n : Nat) : Builtin.Slice.sliceAdjust none none (-1) (n : Int) = ((n : Int) - 1, -1) := by
  unfold Builtin.Slice.sliceAdjust
  simp
theorem rev_places (n : Nat) : Builtin.Slice.slicePlaces ((n : Int) - 1) (-1) (-1) = n := by
  unfold Builtin.Slice.slicePlaces
  have h1 : ¬ ((-1 : Int) > 0) := by decide
  simp only [h1, if_false]
  split
  · rw [show (- -1 : Int) = 1 by decide, Int.ediv_one]; omega
  · omega
theorem rev_applied {sl : Addr} {vl vu vs : Value} {n : Nat} {Q : Int × Int × Nat → Shared → Prop} (hs : s.heap.IsSliceOf sl vl vu vs) (pl : IsPart vl none) (pu : IsPart vu none) (ps : IsPart vs (some (-1)))
    (h : Q ((n : Int) - 1, -1, n) s) : wpAny (model prog w) A (Builtin.Slice.sliceApplied (.ref sl) (pure (n : Int))) Q E s := by
  obtain ⟨os, e1, e2, e3⟩ := id hs
  unfold Builtin.Slice.sliceApplied Builtin.Slice.sliceFields
  have go : wpAny (model prog w) A (Builtin.Slice.slicePartIndex vs) (fun o s' => o = some (-1) ∧ s' = s) E s := HT.slicePart_ ps ⟨rfl, rfl⟩
  refine wpAny_bind (wpAny_bind (wpAny_field e1 e3 (x := vl) rfl (wpAny_bind (wpAny_field e1 e3 (x := vu) rfl (wpAny_bind (wpAny_field e1 e3 (x := vs) rfl (wpAny_pure ?_)))))))
  refine wpAny_bind (thn go fun o s' ho => ?_)
  obtain ⟨rfl, rfl⟩ := ho
  show wpAny _ _ (if ((-1 : Int) == 0) = true then _ else _) _ _ _
  rw [if_neg (by decide)]
  refine wpAny_bind (HT.slicePart_ pl (wpAny_bind (HT.slicePart_ pu (wpAny_bind (wpAny_pure ?_)))))
  show wpAny _ _ (match Builtin.Slice.sliceAdjust none none (-1) (n : Int) with | (lo, hi) => pure (lo, (-1 : Int), Builtin.Slice.slicePlaces lo hi (-1))) _ _ _
  rw [rev_adjust n]
  show wpAny _ _ (pure ((n : Int) - 1, (-1 : Int), Builtin.Slice.slicePlaces ((n : Int) - 1) (-1) (-1))) _ _ _
  rw [rev_places]
  exact wpAny_pure h
theorem rev_pick (xs : Array Value) : ((List.range xs.size).filterMap fun (m : Nat) => xs[(((xs.size : Int) - 1) + (m : Int) * (-1)).toNat]?).toArray = xs.toList.reverse.toArray := by
  have e : ((List.range xs.size).filterMap fun (m : Nat) => xs[(((xs.size : Int) - 1) + (m : Int) * (-1)).toNat]?) = ((List.range xs.size).map fun k => xs.size - 1 - k).filterMap (xs[·]?) := by
    rw [List.filterMap_map]
    congr 1
    funext m
    show xs[(((xs.size : Int) - 1) + (m : Int) * (-1)).toNat]? = xs[xs.size - 1 - m]?
    have : (((xs.size : Int) - 1) + (m : Int) * (-1)).toNat = xs.size - 1 - m := by omega
    rw [this]
  rw [e, PySem.W.krv_range, List.filterMap_reverse, PySem.W.krv_all]
theorem getItem_rev {t sl : Addr} {items : Array Value} {vl vu vs : Value} {Q : Value → Shared → Prop} (ht : IsTup s.heap t items) (hs : s.heap.IsSliceOf sl vl vu vs) (pl : IsPart vl none) (pu : IsPart vu none) (ps : IsPart vs (some (-1)))
    (h : Q (.ref s.heap.objs.size) { s with heap := s.heap.push { cls := .type "tuple", data := .seq items.toList.reverse.toArray } }) (hz : items.size ≤ sizeLine) :
    wpAny (model prog w) A (getItem (.ref t) (.ref sl)) Q E s := by
  have hok : sizeOk (.seq items.toList.reverse.toArray) := by
    show items.toList.reverse.toArray.size ≤ sizeLine
    rw [List.size_toArray, List.length_reverse, Array.length_toList]
    exact hz
  obtain ⟨os, hos, hcs, hds⟩ := id hs
  have hT : s.TypeIs (.ref sl) "slice" := ⟨os, hos, hcs⟩
  unfold getItem
  try with_reducible refine wpAny_holding ?_
  first | refine wpAny_bind (wpAny_pure ?_) | skip
  refine wpAny_bind (wpAny_sequenceKey ht.typeIs (by decide) ?_)
  refine wpAny_bind (wpAny_callSpecial?_slot (name := Str.ofString "__getitem__") ht.typeIs PyProof.Rows.slot_tuple_getitem
    (wpAny_call_entry PyProof.Rows.slot_tuple_getitem ht.typeIs entry_tuple_getitem ?_ (args_tuple_getitem _ _)))
  show wpAny _ _ (Builtin.Tuple.tupleItemsOf (.ref t) >>= _) _ _ _
  refine wpAny_bind (tupleItemsOf_ ht (wpAny_bind (wpAny_typeOf hT ?_)))
  rw [if_pos (by decide)]
  refine wpAny_bind (rev_applied hs pl pu ps ?_)
  have hno : ¬ ((((items.size : Int) - 1) == 0 && (-1 : Int) == 1 && items.size == items.size) = true) := by simp
  show wpAny _ _ (if ((((items.size : Int) - 1) == 0 && (-1 : Int) == 1 && items.size == items.size) = true) then _ else _) _ _ _
  rw [if_neg hno, rev_pick]
  first
    | exact wpAny_bind (m := Builtin.Tuple.tupleExact _) (wpAny_newObj_type (wpAny_pure ⟨_, rfl, wpAny_pure h⟩) hok)
    | exact wpAny_bind (m := Builtin.Tuple.tupleExact _) (wpAny_newObj_type (wpAny_bind (wpAny_pure (wpAny_pure ⟨_, rfl, wpAny_pure h⟩))) hok)
    | exact wpAny_bind (wpAny_bind (m := Builtin.Tuple.tupleExact _) (wpAny_newObj_type (wpAny_pure (wpAny_pure ⟨_, rfl, wpAny_pure h⟩)) hok))
    | exact wpAny_bind (wpAny_bind (m := Builtin.Tuple.tupleExact _) (wpAny_newObj_type (wpAny_pure ⟨_, rfl, wpAny_pure h⟩) hok))
def tRevT (K : PySem.W.Frag) (te : TE) : TE := fun σ H Q => te σ H fun x H1 => ∃ a xs, x = .ref a ∧ SqT K H1 a xs ∧ ∀ p, H1 p = none → Q (.ref p) (upd H1 p (.tup xs.reverse))
theorem pe_revT {e : Expr} {te : TE} {k : Nat} {p1 p2 p3 pos : Pos} (he : PE X e te) : PE X (.Subscript e (.Slice none none (some (.UnaryOp .USub (.Constant (.int 1) k p1) p2)) p3) pos) (tRevT X.K te) := by
  refine ⟨fun pins s σ H Q I h => ?_⟩
  refine Subscript_ (thn (he.run pins s σ H _ I h) fun v s1 ⟨x, H1, I1, r1, q1⟩ => ?_)
  obtain ⟨a, xs, ex, hx, q⟩ := q1
  subst ex
  cases r1
  have hst : PO X (some (.UnaryOp .USub (.Constant (.int 1) k p1) p2)) (tPart (tUn (rU fun i => .int (-i)) (tC (.int 1)))) := po_some (pe_un un_neg pe_int)
  refine wpAny_Slice (thn (po_none.run pins s1 σ H1 (fun o H2 => o = none ∧ H2 = H1) I1 ⟨rfl, rfl⟩) fun vl s2 ⟨l, H2, I2, pl, el, e2⟩ => ?_)
  subst el e2
  refine thn (po_none.run pins s2 σ H2 (fun o H3 => o = none ∧ H3 = H2) I2 ⟨rfl, rfl⟩) fun vu s3 ⟨u, H3, I3, pu, eu, e3⟩ => ?_
  subst eu e3
  refine thn (hst.run pins s3 σ H3 (fun o H4 => o = some (-1) ∧ H4 = H3) I3 ⟨1, rfl, -1, rfl, rfl, rfl⟩) fun vs s4 ⟨o, H4, I4, ps, eo, e4⟩ => ?_
  subst eo e4
  have I5 : Inv X pins σ H4 { s4 with heap := s4.heap.push { cls := .type "slice", data := .fields #[vl, vu, vs] } } := I4.kept (t' := s4.toks) fun b ob q => Heap.get?_push_of_some _ q
  obtain ⟨its, r, ht, hz⟩ := I5.tuple hx
  have hlen := r.length
  refine tail_any (ops := [.ref a, .ref s4.heap.objs.size]) ht.typeIs (PyProof.Rows.slot_tuple_getitem.lookup) ?_ (by with_unfolding_all rfl)
  refine getItem_rev ht (Heap.IsSliceOf.new _ vl vu vs) pl pu ps ?_ (by rw [List.size_toArray]; omega)
  refine ⟨.ref _, _, I5.laid (t' := s4.toks) (o := .tup xs.reverse) (fun b ob q => Heap.get?_push_of_some _ q) (Nat.le_refl _) ?_, rfl, q _ (I5.hok.fresh (Nat.le_refl _))⟩
  exact ⟨by rw [List.length_reverse]; exact hz, its.reverse, r.reverse, _, Heap.get?_push_size _ rfl, rfl, 0, rfl⟩
end
end Pd

set_option maxHeartbeats 4000000
namespace Pd
open PySem PySem.Spec PyProof.Rows L2
section
variable {X : Cx}
/-- sorted(d), a dict whose keys are ints, of any number -/
def rSortD : List V → Hp → VK → Prop := fun xs H Q => ∃ (a : Addr) (kvs : List (Key × V)) (ks : List Int), xs = [.ref a] ∧ Rd H a (.dK kvs) ∧ kvs.map (·.1) = ks.map Sum.inl ∧
  ∀ (ys : List Int) (p : Addr), ys.Perm ks → ys.Pairwise (· ≤ ·) → H p = none → Q (.ref p) (upd H p (.lst (ys.map V.int)))
theorem call_sortD (hcalm : X.calm = true) : CallR X (.builtin "sorted") rSortD := by
  intro pins s σ H xs us Q I r q
  obtain ⟨a, kvs, ks, ex, hd, hks, q⟩ := q
  subst ex
  obtain ⟨u, eu, rx⟩ := vals1 r
  subst eu
  cases rx
  obtain ⟨z, lo, vs, rel, dd⟩ := dk_rd I.hok hd
  obtain ⟨ep, hat⟩ := dd.dictAt
  have hkeys : vs.map (·.1) = ks.map Sum.inl := rel.keys.symm.trans hks
  have hl : vs.length = ks.length := by
    have e := congrArg List.length hkeys
    rwa [List.length_map, List.length_map] at e
  have hkl : kvs.length = ks.length := by
    have e := congrArg List.length hks
    rwa [List.length_map, List.length_map] at e
  have h16 : vs.length ≤ sizeLine := by rw [hl, ← hkl]; exact z
  refine Calls.call_function_entry PyProof.Rows.kind_sorted PyProof.Rows.plain_sorted PyProof.Rows.entry_sorted (PyProof.Rows.args_sorted1 _) ?_
  unfold Builtin.«sorted»
  refine wpAny_bind (m := checkCount "sorted" 1 1 _) (wpAny_pure ?_)
  refine wpAny_bind (PySem.W.kdu_collect (A := X.A.in1) (PySem.W.kdl_dict (knd := mixKind X.prog X.w) (kvs := vs) (ep := ep) lo) (I.ok.hd hcalm) hat h16 fun h' tk acc hk hacc => ?_)
  have hal : acc.toList.length = ks.length := by rw [Array.length_toList, hacc.1, hl]
  have hS : IntsAre acc.toList ks := ints_each hal fun j v e => by
    obtain ⟨k, x, e1, e2⟩ := hacc.2 j v (by rw [← Array.getElem?_toList]; exact e)
    have e3 : (vs.map (·.1))[j]? = some k := by rw [List.getElem?_map, e1]; rfl
    rw [hkeys, List.getElem?_map] at e3
    cases e4 : ks[j]? with
    | none => rw [e4] at e3; cases e3
    | some y =>
      rw [e4] at e3
      have e5 : Sum.inl y = k := Option.some.inj e3
      subst e5
      rcases keyIs_shape (show keyIs (Sum.inl y) v = true from e2) with ⟨i, t, ek, ev⟩ | ⟨z, t, ek, ev⟩
      · cases ek
        exact ⟨y, t, rfl, ev⟩
      · cases ek
  have I1 : Inv X pins σ H { s with heap := h', toks := tk } := I.kept hk
  have hz : acc.toList.length ≤ sizeLine := by rw [hal, ← hl]; exact h16
  refine wpAny_bind (wpAny_newList ?_ hz)
  have hoL : (h'.push (seqObj "list" acc.toList.toArray 0)).get? h'.objs.size = some (seqObj "list" acc.toList.toArray 0) := Heap.get?_push_size _ rfl
  show wpAny _ _ _ _ _ { s with heap := h'.push (seqObj "list" acc.toList.toArray 0), toks := tk }
  refine wpAny_bind (wpAny_holding (wpAny_call_entry PyProof.Rows.slot_list_sort ⟨_, hoL, rfl⟩ PyProof.Rows.entry_list_sort
    (SrtO.list_sort_ord (s := { s with heap := h'.push (seqObj "list" acc.toList.toArray 0), toks := tk }) SrtO.swo_int hoL hz (fun h2 => SrtO.ints_sortable hS h2) fun out h1 h2 => ⟨.none, rfl, ?_⟩) (PyProof.Rows.args_list_sort _)))
  obtain ⟨k1, k2, k3⟩ := SrtO.ints_out hS h1 h2
  obtain ⟨e', he'⟩ := PyProof.Rows.sortedHeap_at (vs := acc.toList) (out := out.toArray) hoL
  have hlen : ((out.map SrtO.iv).map V.int).length ≤ sizeLine := by
    rw [List.length_map, k2.length_eq, ← hal]
    exact hz
  refine wpAny_pure ⟨_, rfl, .ref h'.objs.size, upd H h'.objs.size (.lst ((out.map SrtO.iv).map V.int)), I1.laid (t' := tk) (fun b u e => ?_) (Nat.le_refl _)
    (show ObjOk X.prog X.w _ _ _ (.lst ((out.map SrtO.iv).map V.int)) from ⟨hlen, out, e', vals_of_ints k1, he'⟩), rfl, q _ _ k2 k3 (I1.hok.fresh (Nat.le_refl _))⟩
  have hb : b < h'.objs.size := Heap.lt_size e
  rw [PyProof.Rows.sortedHeap_old (Nat.ne_of_lt hb) (by rw [size_push']; exact Nat.lt_succ_of_lt hb)]
  exact Heap.get?_push_of_some _ e
end
end Pd

set_option maxHeartbeats 4000000
/-! Defs that are run where no repr is under way (A.guards = some []): the law's outermost ones, which compare reprs. -/
namespace Pd
open PySem PySem.Spec PyProof.Rows L2
structure FnG (P : Program) (w : World) (K : PySem.W.Frag) (mg : Str → Option Value) (base : Heap) (k : Nat) (f : Addr) (fd : FuncData) (ps : List Str) (sp : Sp) : Prop where
  len : ∀ vs H Q E, sp vs H Q E → vs.length = ps.length
  run : ∀ (A : Around) (outer : List Env) (s : Shared) (H : Hp) (args : Args) (us : List Value) (vs : List V) (Q : VK) (E : XK), A.guards = some [] → Room k A → Env0 P w K mg base A outer s H → BindsTo s fd args (ps.zip us) → Vals vs us → sp vs H Q E →
    codeAny (model P w) A (.call (.ref f) args) (CR CX0 outer P w H s Q E) s
theorem guards_deeper (A : Around) (env : Env) : (A.deeper env).guards = A.guards := rfl
section
variable {P : Program} {w : World} {K : PySem.W.Frag} {mg : Str → Option Value} {base : Heap}
theorem okG {x qual : Str} {st : Stmt} {f : Addr} {fd : FuncData} {N ps : List Str} {k : Nat} {sp : Sp} (F : L2.Fun K x qual st f fd) (S : FnScope N ps (defScope st)) (len : ∀ vs H Q E, sp vs H Q E → vs.length = ps.length)
    (hbody : ∀ (cdv : Value) (A : Around) (outer : List Env) (s : Shared) (H : Hp) (vs : List V) (Q : VK) (E : XK), A.guards = some [] → Room k (A.deeper (envOfC qual (defScope st) s.heap.objs.size f cdv)) → sp vs H Q E →
      ∃ t, PSs (cxOf CX0 P w K mg base N qual (defScope st) f cdv A outer s H E).nox (defBody st) t ∧ t { nx := fun _ H' => Q .non H', rt := Q } (start N vs) H) : FnG P w K mg base (k + 1) f fd ps sp := by
  obtain ⟨oc, od, kV, doc, pm, an, cdv, ct, osl, rfl, lk, hcd⟩ := F.ex
  constructor
  · exact len
  intro A outer s H args us vs Q E hgd hr e0 hb r hsp
  have up : ∀ b o, base.get? b = some o → s.heap.get? b = some o := fun b o e => (e0.bs b o e).1
  have KX : K.In s.heap := e0.mod.kin.keeps up
  obtain ⟨t, ht0, hq⟩ := hbody cdv A outer s H vs Q E hgd (hr.deeper _) hsp
  have ht := ht0.nox
  refine codeAny_call_function hr.depth (KX _ _ lk) rfl S.co S.gen rfl (PySem.W.codeRec_of KX hcd) (hb _ _ _ _ ?_)
  refine wpAny_newFunctionEnv_cells S.kind (fun y hy => ?_) fun env he s1 x => ?_
  · rcases S.par y.1 (List.of_mem_zip (show (y.1, y.2) ∈ ps.zip us from hy)).1 with q | q
    · exact .inl q
    · exact .inr ⟨q, PySem.W.cellsFrom_some _ _ _ (.inl q)⟩
  subst he
  have I := inv_start (CX := CX0) (P := P) (w := w) (K := K) (mg := mg) (base := base) (E := E) S hr.hd e0 (len _ _ _ _ hsp) r x
  refine ⟨(e0.mod.nolimit.keeps up).keeps x.toInCall.keep, codeAny_func (wpAny_mono (ht.run [] s1 (start N vs) H _ I hq) (fun fl s' hs => ?_) fun e s' z => z)⟩
  cases fl with
  | ret u =>
    obtain ⟨v, σ', H', J, rv, q⟩ := hs
    exact ⟨v, H', J.os, J.bare, J.base, J.hok, rv, q⟩
  | next =>
    obtain ⟨σ', H', J, q⟩ := hs
    exact ⟨.non, H', J.os, J.bare, J.base, J.hok, rfl, q⟩
  | brk => obtain ⟨_, _, _, q⟩ := hs; exact q.elim
  | cont => obtain ⟨_, _, _, q⟩ := hs; exact q.elim
end
structure FnGn (P : Program) (w : World) (K : PySem.W.Frag) (mg : Str → Option Value) (base : Heap) (k : Nat) (x : Str) (sp : Sp) : Prop where
  ex : ∃ (f : Addr) (fd : FuncData) (ps : List Str), FnG P w K mg base k f fd ps sp ∧ mg x = some (.ref f) ∧ PySem.W.keepIn K (.ref f) = true ∧ Binds K fd ps []
section
variable {X : Cx} {k j : Nat} {x : Str} {sp : Sp} {p pos : Pos} {e : Expr} {es : List Expr} {t : TA}
theorem pe_fg (c : FnGn X.prog X.w X.K X.mg X.base k x sp) (hgd : X.A.guards = some []) (hr : Room j X.A) (hk : k ≤ j) (hg : Gl X x) (ha : PA X (e :: es) t)
    (hdb : (x == ("__debug__" : Str)) = false := by decide) (he : starEach (e :: es) X.env = (false, eval e X.env) :: starEach es X.env := by rfl) (hpl : (backTo pos (starEach es X.env)).any (·.1) = false := by rfl) :
    PE X (.Call (.Name x p) (e :: es) [] pos) (tCall sp [] E0 t) := by
  obtain ⟨f, fd, ps, F, hm, kp, b⟩ := c.ex
  refine ⟨fun pins s σ H Q I h => wpAny_Call_Name_kw (ld_glob I hg hm ?_ hdb)⟩
  refine PySem.W.callWith_K (h₀ := X.base) I.ok.mod.kin kp (thn (ha.run pos pins s σ H _ I h) fun us s1 ⟨vs, H1, I1, r, q⟩ => ⟨I1.kIn, ?_⟩) he hpl
  have q' : sp vs H1 Q E0 := by
    have z : sp (vs ++ []) H1 Q E0 := q
    rw [List.append_nil] at z
    exact z
  have hl : us.length = ps.length := r.length.symm.trans (F.len _ _ _ _ q')
  have hb := b s1 us I1.kIn (by rw [List.append_nil]; exact hl)
  rw [List.append_nil] at hb
  refine wpAny_call (codeAny_mono (F.run X.A X.stack s1 H1 ⟨us, []⟩ us vs Q E0 hgd (hr.mono hk) I1.env0 hb r q') fun rr s' hq => ?_)
  cases rr with
  | error e => exact hq.elim
  | ok fl =>
    cases fl with
    | ret u => exact I1.after hq
    | next => exact False.elim hq
    | brk => exact False.elim hq
    | cont => exact False.elim hq
/-- repr(x), x data -/
def rRepr (K : PySem.W.Frag) : List V → Hp → VK → Prop := fun xs H Q => ∃ (a : Addr) (d : PyData), xs = [.ref a] ∧ Dp K H (.ref a) d ∧ d.showable = true ∧ d.hasDict = false ∧ d.depth ≤ 60 ∧ d.shown.length ≤ sizeLine ∧ Q (.str d.shown) H
theorem call_reprD (hgd : X.A.guards = some []) (hu : X.A.units + 64 < cLine) : CallR X (.builtin "repr") (rRepr X.K) := by
  intro pins s σ H xs us Q I r h
  obtain ⟨a, d, rfl, hd, hs, hn, hdep, hz, q⟩ := h
  obtain ⟨u, rfl, rx⟩ := vals1 r
  obtain ⟨as, rd⟩ := Dp.reads I d _ u hd rx
  cases rx
  exact repr_of_reads' rd hs (PyData.noDict_hsm hn) hgd (by omega) (fun _ _ e => e) (fun h' u tk hk => ⟨.str d.shown, H, I.kept hk, ⟨_, rfl⟩, q⟩) hz
end
end Pd

set_option maxHeartbeats 4000000
namespace Pd
open PySem PySem.Spec PyProof.Rows L2
/-- the law's own call, its def kept by FnG -/
theorem law_callG {P : Program} {w : World} {K : PySem.W.Frag} {mg mb : Str → Option Value} {k : Nat} {fa a : Addr} {fd : FuncData} {x : Str} {sp : Sp} {s1 : Shared} {vs : List Value} {ns : List Int}
    (KX : K.In s1.heap) (hns : s1.heap.Ns mainGlobals mg) (hb : s1.heap.Ns builtinsNs mb) (hbb : ∀ x : Str, x ≠ "__name__" → mb x = bootBuiltins x) (hlim : s1.heap.NoLimit) (hg : s1.gens = #[])
    (ha : s1.heap.get? a = some { cls := .type "list", data := .seq vs.toArray }) (hi : IntsAre vs ns) (hl : ns.length ≤ sizeLine) (hr : Room k callerA)
    (F : ∀ base : Heap, K.In base → base.Ns mainGlobals mg → FnG P w K mg base k fa fd [x] sp) (hbind : ∀ (s : Shared) (u : Value), BindsTo s fd ⟨[u], []⟩ [(x, u)])
    (hsp : ∀ H : Hp, Only H → SqL K H a (ns.map V.int) → sp [.ref a] H (fun v _ => v = .bl true) fun _ _ _ => False) :
    codeAny (model P w) callerA (.call (.ref fa) ⟨[.ref a], []⟩) (fun r s' => r = .ok (.ret (.bool true)) ∧ OldK s1.heap s'.heap ∧ s'.os = s1.os ∧ AllBare s'.gens) s1 := by
  have rv := vals_ints hi
  have lenV := hi.length
  have main : ∀ H : Hp, Only H → SqL K H a (ns.map V.int) → HOk P w H s1.heap → (∀ b u, H b = some u → b = a ∧ K.lookup a = none) →
      codeAny (model P w) callerA (.call (.ref fa) ⟨[.ref a], []⟩) (fun r s' => r = .ok (.ret (.bool true)) ∧ OldK s1.heap s'.heap ∧ s'.os = s1.os ∧ AllBare s'.gens) s1 := by
    intro H only hS hok where_
    have free : ∀ {b : Addr}, (b = a → K.lookup a = none → False) → H b = none := fun {b} no => by
      cases q : H b with
      | none => rfl
      | some u => exact ((no (where_ b u q).1) (where_ b u q).2).elim
    have dicts : ∀ {b : Addr} {m : Str → Option Value}, s1.heap.Ns b m → (hidT s1.heap H).Ns b m := fun {b m} ⟨o, es, ep, e, d, r⟩ => by
      refine ⟨o, es, ep, hidT_get e (free fun z _ => ?_), d, r⟩
      subst z
      rw [ha] at e
      cases e
      exact nomatch (show Data.seq vs.toArray _ = Data.dict es ep from d)
    have kin : K.In (hidT s1.heap H) := fun b o e => hidT_get (KX b o e) (free fun z q => by subst z; rw [q] at e; cases e)
    obtain ⟨mc, l1, l2⟩ := hlim
    have md : Mod K mg (hidT s1.heap H) := ⟨kin, dicts hns, ⟨mb, dicts hb, hbb⟩, ⟨mc, dicts l1, l2⟩⟩
    have e0 : Env0 P w K mg (hidT s1.heap H) callerA [] s1 H := ⟨rfl, md, fun b o e => of_hidT e, Nat.le_of_eq (hidT_size _ _), trivial, fun b z => absurd (show b ∈ ([] : List Addr) from z) (by simp), hok, .of_eq hg⟩
    have go := (F _ kin (dicts hns)).run callerA [] s1 H ⟨[.ref a], []⟩ [.ref a] [.ref a] _ _ rfl hr e0 (hbind s1 (.ref a)) (.cons rfl .nil) (hsp H only hS)
    refine codeAny_mono go fun r s' z => ?_
    cases r with
    | error e => exact z.elim
    | ok fl =>
      cases fl with
      | next => exact False.elim z
      | brk => exact False.elim z
      | cont => exact False.elim z
      | ret u =>
        obtain ⟨v, H', os, bare, un, hok', r', q⟩ := z
        obtain rfl : v = .bl true := q
        obtain rfl : u = Value.bool true := r'
        refine ⟨rfl, OldK.of_keep fun b o e => ?_, os, bare⟩
        rcases only b with n | ⟨ob, xs, f⟩
        · exact un.keep b o e n (fun y => absurd (show b ∈ ([] : List Addr) from y) (by simp)) (by simp)
        · have f' := un.frzs b ob _ f
          have e1 : s1.heap.get? b = some ob := (hok b _ f).1
          have e2 : s'.heap.get? b = some ob := (hok' b _ f').1
          exact e2.trans (e1.symm.trans e)
  cases hk : K.lookup a with
  | some o =>
    have e := KX a o hk
    rw [ha] at e
    cases e
    exact main (fun _ => none) (fun _ => .inl rfl) (.inr ⟨_, vs.toArray, _, hk, rfl, rfl, rfl, by rw [List.size_toArray, lenV]; exact hl, by simpa using rv⟩) (fun b u z => by cases (show (none : Option HO) = some u from z)) (fun b u z => by cases (show (none : Option HO) = some u from z))
  | none =>
    have at_ : ∀ {b : Addr} {u : HO}, (if b = a then some (HO.frz { cls := .type "list", data := .seq vs.toArray } (.lst (ns.map V.int))) else none) = some u → b = a ∧ u = .frz { cls := .type "list", data := .seq vs.toArray } (.lst (ns.map V.int)) := fun {b u} z => by
      by_cases h : b = a
      · rw [if_pos h] at z
        exact ⟨h, (Option.some.inj z).symm⟩
      · rw [if_neg h] at z
        cases z
    refine main (fun b => if b = a then some (.frz { cls := .type "list", data := .seq vs.toArray } (.lst (ns.map V.int))) else none) (fun b => ?_) (.inl (.inr ⟨_, if_pos rfl⟩)) (fun b u z => ?_) fun b u z => ⟨(at_ z).1, hk⟩
    · by_cases h : b = a
      · exact .inr ⟨_, _, if_pos h⟩
      · exact .inl (if_neg h)
    · obtain ⟨rfl, rfl⟩ := at_ z
      exact ⟨ha, by rw [List.length_map]; exact hl, vs, _, rv, ha⟩
theorem walk_ofG {l : PySem.W.OpenLaw} {n k : Nat} {q : Program} {loose : List Str} {XP : (Str → Option Value) → Heap → Prop} {YP : World → Heap → Prop} {d : DefRec} {K : Params → PySem.W.Frag} {sp : World → Sp} {x : Str}
    (hn : l.most = some n) (hn2 : n ≤ sizeLine) (hdf : d.params.defaults = []) (hr : Room k callerA) (hY : ∀ (w : World) (h : Heap), YP w h → (K w.params).In h)
    (F : ∀ (w : World) (mg : Str → Option Value) (fa : Addr) (h : Heap), (K w.params).In h → h.Ns mainGlobals mg → mg d.name = some (.ref fa) →
      ∃ fd : FuncData, (∀ (s : Shared) (u : Value), BindsTo s fd ⟨[u], []⟩ [(x, u)]) ∧ ∀ base : Heap, (K w.params).In base → base.Ns mainGlobals mg → FnG l.prog w (K w.params) mg base k fa fd [x] (sp w))
    (hsp : ∀ (w : World) (H : Hp) (a : Addr) (ns : List Int), ns.length ≤ n → Only H → SqL (K w.params) H a (ns.map V.int) → sp w [.ref a] H (fun v _ => v = .bl true) fun _ _ _ => False) :
    PySem.W.WalkO q loose XP YP l.row.toRowW d [] (fun f vs => PySem.call f vs) := by
  refine Att.attach_call hn hdf fun w s0 s1 mg mb fa o pm cd doc a vs ns G Y ho hd hcd hmg hobj hints hlen hg => ?_
  obtain ⟨fd, hb, hF⟩ := F w mg fa _ (hY w _ Y) G.T.g hmg
  exact law_callG (hY w _ Y) G.T.g G.T.b G.T.builtins G.T.nolimit hg hobj hints (Nat.le_trans hlen hn2) hr hF hb fun H hO hS => hsp w H a ns hlen hO hS
end Pd

set_option maxHeartbeats 4000000
/-! Plain data in the place of the heap: D (what a value stands for), slots that own a changing object, states. -/
namespace Zd
open PySem PySem.Spec PyProof.Rows L2 Pd
inductive D where
  | non | bl (b : Bool) | int (i : Int) | str (s : Str) | ty (n : String) | ob (a : Addr)
  | scr (ns : List Int)
  | tup (ds : List D) | lst (ds : List D) | dct (kvs : List (Key × D)) | dcn (kvs : List (D × D))
mutual
/-- the key of a dict that a datum is -/
def nkOf : D → Option NestedKey
  | .non => some .none | .int i => some (.num i) | .str x => some (.text x)
  | .tup ds => (nkOfs ds).map .tup
  | _ => none
def nkOfs : List D → Option (List NestedKey)
  | [] => some []
  | d :: ds => (nkOf d).bind fun k => (nkOfs ds).map fun ks => k :: ks
end
/-- a dict, entry by entry -/
def rawO (a : Addr) (es : List DictEntry) (ep : Nat) : HO := .ext fun h => (a == sysModules) = false ∧ h.DictRaw a es.toArray ep
/-- what the top leaves, and the world (which says how texts are hashed) -/
structure KW where
  f : PySem.W.Frag
  w : World
abbrev _root_.L2.Cx.kw (X : Cx) : KW := ⟨X.K, X.w⟩
mutual
inductive Rep (K : KW) (H : Hp) : V → D → Prop
  | non : Rep K H .non .non
  | bl (b : Bool) : Rep K H (.bl b) (.bl b)
  | int (i : Int) : Rep K H (.int i) (.int i)
  | str (x : Str) : Rep K H (.str x) (.str x)
  | ty (n : String) : Rep K H (.ty n) (.ty n)
  | ob (a : Addr) : Rep K H (.ref a) (.ob a)
  | scr {a : Addr} {ns : List Int} (h : SqL K.f H a (ns.map V.int)) : Rep K H (.ref a) (.scr ns)
  | tup {a : Addr} {xs : List V} {ds : List D} (h : SqT K.f H a xs) (hs : RepAll K H xs ds) : Rep K H (.ref a) (.tup ds)
  | lst {a : Addr} {xs : List V} {ds : List D} (h : H a = some (.lst xs)) (hs : RepAll K H xs ds) : Rep K H (.ref a) (.lst ds)
  | dct {a : Addr} {ks : List (Key × V)} {kvs : List (Key × D)} (h : H a = some (.dK ks)) (hs : RepKV K H ks kvs) : Rep K H (.ref a) (.dct kvs)
  | dcn {a : Addr} {es : List DictEntry} {ep : Nat} {kvs : List (D × D)} (h : H a = some (rawO a es ep)) (hl : es.length ≤ 10000000) (hs : RepKD K H es kvs) (nd : (kvs.map fun p => nkOf p.1).Nodup) : Rep K H (.ref a) (.dcn kvs)
inductive RepAll (K : KW) (H : Hp) : List V → List D → Prop
  | nil : RepAll K H [] []
  | cons {v : V} {vs : List V} {d : D} {ds : List D} (h : Rep K H v d) (hs : RepAll K H vs ds) : RepAll K H (v :: vs) (d :: ds)
inductive RepKV (K : KW) (H : Hp) : List (Key × V) → List (Key × D) → Prop
  | nil : RepKV K H [] []
  | cons {k : Key} {v : V} {vs : List (Key × V)} {d : D} {ds : List (Key × D)} (h : Rep K H v d) (hs : RepKV K H vs ds) : RepKV K H ((k, v) :: vs) ((k, d) :: ds)
inductive RepKD (K : KW) (H : Hp) : List DictEntry → List (D × D) → Prop
  | nil : RepKD K H [] []
  | cons {b : Addr} {nk : NestedKey} {v : V} {u : Value} {kd vd : D} {es : List DictEntry} {kvs : List (D × D)} (h1 : Rep K H (.ref b) kd) (h2 : nkOf kd = some nk) (h3 : nk.depth ≤ 8) (rv : RelV v u) (h4 : Rep K H v vd)
    (hs : RepKD K H es kvs) : RepKD K H (⟨nk.hash K.w, .ref b, u⟩ :: es) ((kd, vd) :: kvs)
end
section
variable {K : KW} {H H' : Hp}
theorem sameNew {p : Addr} {o : HO} (n : H p = none) : Same H (upd H p o) := fun b u e => by
  rw [upd_ne (ne_of_none e n)]
  exact e
theorem sqT_mono {K : PySem.W.Frag} {a : Addr} {xs : List V} (l : Same H H') (q : SqT K H a xs) : SqT K H' a xs := by
  rcases q with (q | ⟨o, q⟩) | q
  · exact .inl (.inl (l _ _ q))
  · exact .inl (.inr ⟨o, l _ _ q⟩)
  · exact .inr q
mutual
theorem Rep.mono (l : Same H H') : ∀ {v : V} {d : D}, Rep K H v d → Rep K H' v d
  | _, _, .non => .non
  | _, _, .bl b => .bl b
  | _, _, .int i => .int i
  | _, _, .str x => .str x
  | _, _, .ty n => .ty n
  | _, _, .ob a => .ob a
  | _, _, .scr h => .scr (Same.seq l h)
  | _, _, .tup e es => .tup (sqT_mono l e) (RepAll.mono l es)
  | _, _, .lst e es => .lst (l _ _ e) (RepAll.mono l es)
  | _, _, .dct e es => .dct (l _ _ e) (RepKV.mono l es)
  | _, _, .dcn e hl es nd => .dcn (l _ _ e) hl (RepKD.mono l es) nd
theorem RepAll.mono (l : Same H H') : ∀ {vs : List V} {ds : List D}, RepAll K H vs ds → RepAll K H' vs ds
  | _, _, .nil => .nil
  | _, _, .cons e es => .cons (Rep.mono l e) (RepAll.mono l es)
theorem RepKV.mono (l : Same H H') : ∀ {vs : List (Key × V)} {ds : List (Key × D)}, RepKV K H vs ds → RepKV K H' vs ds
  | _, _, .nil => .nil
  | _, _, .cons e es => .cons (Rep.mono l e) (RepKV.mono l es)
theorem RepKD.mono (l : Same H H') : ∀ {es : List DictEntry} {kvs : List (D × D)}, RepKD K H es kvs → RepKD K H' es kvs
  | _, _, .nil => .nil
  | _, _, .cons h1 h2 h3 rv h4 hs => .cons (Rep.mono l h1) h2 h3 rv (Rep.mono l h4) (RepKD.mono l hs)
end
theorem RepAll.len : ∀ {vs : List V} {ds : List D}, RepAll K H vs ds → vs.length = ds.length
  | _, _, .nil => rfl
  | _, _, .cons _ es => congrArg Nat.succ (RepAll.len es)
theorem RepKV.len : ∀ {vs : List (Key × V)} {ds : List (Key × D)}, RepKV K H vs ds → vs.length = ds.length
  | _, _, .nil => rfl
  | _, _, .cons _ es => congrArg Nat.succ (RepKV.len es)
theorem RepAll.get : ∀ {vs : List V} {ds : List D} {i : Nat} {v : V}, RepAll K H vs ds → vs[i]? = some v → ∃ d, ds[i]? = some d ∧ Rep K H v d
  | _, _, _, _, .nil, e => by simp at e
  | _, _, 0, _, .cons h _, e => by simp at e; subst e; exact ⟨_, rfl, h⟩
  | _, _, i + 1, v, .cons _ t, e => by
    obtain ⟨d, h1, h2⟩ := RepAll.get (i := i) (v := v) t (by simpa using e)
    exact ⟨d, by simpa using h1, h2⟩
theorem RepAll.getD : ∀ {vs : List V} {ds : List D} {i : Nat} {d : D}, RepAll K H vs ds → ds[i]? = some d → ∃ v, vs[i]? = some v ∧ Rep K H v d
  | _, _, _, _, .nil, e => by simp at e
  | _, _, 0, _, .cons h _, e => by simp at e; subst e; exact ⟨_, rfl, h⟩
  | _, _, i + 1, d, .cons _ t, e => by
    obtain ⟨v, h1, h2⟩ := RepAll.getD (i := i) (d := d) t (by simpa using e)
    exact ⟨v, by simpa using h1, h2⟩
theorem RepAll.append : ∀ {vs ws : List V} {ds es : List D}, RepAll K H vs ds → RepAll K H ws es → RepAll K H (vs ++ ws) (ds ++ es)
  | _, _, _, _, .nil, s => s
  | _, _, _, _, .cons h t, s => .cons h (RepAll.append t s)
theorem RepAll.drop : ∀ (n : Nat) {vs : List V} {ds : List D}, RepAll K H vs ds → RepAll K H (vs.drop n) (ds.drop n)
  | 0, _, _, t => t
  | _ + 1, _, _, .nil => .nil
  | n + 1, _, _, .cons _ t => RepAll.drop n t
theorem RepAll.take : ∀ (n : Nat) {vs : List V} {ds : List D}, RepAll K H vs ds → RepAll K H (vs.take n) (ds.take n)
  | 0, _, _, _ => .nil
  | _ + 1, _, _, .nil => .nil
  | n + 1, _, _, .cons h t => .cons h (RepAll.take n t)
theorem RepAll.rev {vs : List V} {ds : List D} (t : RepAll K H vs ds) : RepAll K H vs.reverse ds.reverse := by
  induction vs generalizing ds with
  | nil => cases t; exact .nil
  | cons v vs ih =>
    cases t with
    | cons h t =>
      rw [List.reverse_cons, List.reverse_cons]
      exact (ih t).append (.cons h .nil)
theorem RepAll.set {v : V} {d : D} (h : Rep K H v d) : ∀ (i : Nat) {vs : List V} {ds : List D}, RepAll K H vs ds → RepAll K H (vs.set i v) (ds.set i d)
  | _, _, _, .nil => .nil
  | 0, _, _, .cons _ t => .cons h t
  | i + 1, _, _, .cons q t => .cons q (RepAll.set h i t)
theorem RepAll.erase : ∀ (i : Nat) {vs : List V} {ds : List D}, RepAll K H vs ds → RepAll K H (vs.eraseIdx i) (ds.eraseIdx i)
  | _, _, _, .nil => .nil
  | 0, _, _, .cons _ t => t
  | i + 1, _, _, .cons q t => .cons q (RepAll.erase i t)
theorem RepAll.dropLast : ∀ {vs : List V} {ds : List D}, RepAll K H vs ds → RepAll K H vs.dropLast ds.dropLast
  | _, _, .nil => .nil
  | [_], [_], .cons _ .nil => .nil
  | _ :: _ :: _, _ :: _ :: _, .cons h (.cons h2 t) => .cons h (RepAll.dropLast (.cons h2 t))
theorem RepAll.rep {vs : List V} {ds : List D} (t : RepAll K H vs ds) : ∀ n : Nat, RepAll K H (List.replicate n vs).flatten (List.replicate n ds).flatten
  | 0 => .nil
  | n + 1 => by
    rw [List.replicate_succ, List.replicate_succ, List.flatten_cons, List.flatten_cons]
    exact t.append (RepAll.rep t n)
theorem RepAll.intsV : ∀ (ns : List Int), RepAll K H (ns.map V.int) (ns.map D.int)
  | [] => .nil
  | n :: ns => .cons (.int n) (RepAll.intsV ns)
theorem RepAll.ints : ∀ {xs : List V} {ns : List Int}, RepAll K H xs (ns.map D.int) → xs = ns.map V.int
  | [], [], _ => rfl
  | x :: xs, n :: ns, .cons h t => by
    rw [RepAll.ints t, List.map_cons]
    cases h
    rfl
end
/-! ### slots and states -/
inductive Sl where
  | no | fn | val (d : D) | own (d : D) | byr (d : D)
abbrev Gm := List Sl
def Sl.get : Sl → Option D
  | .no => none | .fn => none | .val d => some d | .own d => some d | .byr d => some d
def mu (Γ : Gm) (i : Nat) : Prop := ∃ d, Γ[i]? = some (.own d) ∨ Γ[i]? = some (.byr d)
/-- what an owned object holds -/
def Cont (K : KW) (Hf H : Hp) (a : Addr) : D → Prop
  | .lst ds => ∃ xs, H a = some (.lst xs) ∧ RepAll K Hf xs ds
  | .dct kvs => ∃ ks, H a = some (.dK ks) ∧ RepKV K Hf ks kvs
  | .dcn kvs => ∃ es ep, H a = some (rawO a es ep) ∧ es.length ≤ 10000000 ∧ RepKD K Hf es kvs ∧ (kvs.map fun p => nkOf p.1).Nodup
  | _ => False
/-- where a def began: the heap, what was at rest in it, the objects that it may change (slot, address) -/
structure Bs where
  B : Hp
  F : Hp
  R : List (Nat × Addr)
inductive SlOk (K : KW) (b : Bs) (Hf H : Hp) : Nat → Option V → Sl → Prop
  | no {i : Nat} {o : Option V} : SlOk K b Hf H i o .no
  | fn {i : Nat} {a : Addr} (hr : (i, a) ∈ b.R) : SlOk K b Hf H i (some (.ref a)) .fn
  | val {i : Nat} {v : V} {d : D} (h : Rep K Hf v d) : SlOk K b Hf H i (some v) (.val d)
  | own {i : Nat} {a : Addr} {d : D} (n : Hf a = none) (h : Cont K Hf H a d) (hb : b.B a = none) : SlOk K b Hf H i (some (.ref a)) (.own d)
  | byr {i : Nat} {a : Addr} {d : D} (n : Hf a = none) (h : Cont K Hf H a d) (hr : (i, a) ∈ b.R) : SlOk K b Hf H i (some (.ref a)) (.byr d)
structure StR (K : KW) (b : Bs) (Hf H : Hp) (σ : L2.St) (Γ : Gm) : Prop where
  len : σ.length = Γ.length
  sl : ∀ i o g, σ[i]? = some o → Γ[i]? = some g → SlOk K b Hf H i o g
  inj : ∀ i j a, mu Γ i → mu Γ j → σ[i]? = some (some (.ref a)) → σ[j]? = some (some (.ref a)) → i = j
  fz : Same Hf H
  f0 : Same b.F Hf
  fresh : ∀ a o, Hf a = some o → b.F a = some o ∨ b.B a = none
  dom : ∀ a o, b.B a = some o → ∃ o', H a = some o'
  fr : ∀ a o, b.B a = some o → (∀ i, (i, a) ∉ b.R) → H a = some o
/-- from one state of an expression's run to a later one -/
structure Ext (σ : L2.St) (Γ Γ' : Gm) (Hf H Hf' H' : Hp) : Prop where
  f : Same Hf Hf'
  h : ∀ a o, H a = some o → (∀ i, mu Γ i → σ[i]? ≠ some (some (.ref a))) → H' a = some o
  n : ∀ a o, Hf' a = some o → Hf a = some o ∨ H a = none
  dm : ∀ a o, H a = some o → ∃ o', H' a = some o'
  k : ∀ i, mu Γ' i → mu Γ i
section
variable {K : KW} {b : Bs} {Hf H Hf' H' Hf1 H1 Hf2 H2 : Hp} {σ : L2.St} {Γ Γ' Γ1 Γ2 : Gm}
theorem Ext.refl : Ext σ Γ Γ Hf H Hf H := ⟨Same.refl _, fun _ _ e _ => e, fun _ _ e => .inl e, fun _ o e => ⟨o, e⟩, fun _ h => h⟩
theorem Ext.trans (x : Ext σ Γ Γ1 Hf H Hf1 H1) (y : Ext σ Γ1 Γ2 Hf1 H1 Hf2 H2) : Ext σ Γ Γ2 Hf H Hf2 H2 := by
  refine ⟨x.f.trans y.f, fun a o e hn => y.h a o (x.h a o e hn) fun i m => hn i (x.k i m), fun a o e => ?_, fun a o e => ?_, fun i m => x.k i (y.k i m)⟩
  · rcases y.n a o e with q | q
    · exact x.n a o q
    · right
      cases z : H a with
      | none => rfl
      | some u => obtain ⟨o', w⟩ := x.dm a u z; rw [q] at w; cases w
  · obtain ⟨o1, q⟩ := x.dm a o e
    exact y.dm a o1 q
theorem Cont.is {a : Addr} {d : D} (c : Cont K Hf H a d) : ∃ o, H a = some o := by
  cases d with
  | lst ds => obtain ⟨xs, e, _⟩ := c; exact ⟨_, e⟩
  | dct ds => obtain ⟨xs, e, _⟩ := c; exact ⟨_, e⟩
  | dcn ds => obtain ⟨xs, ep, e, _⟩ := c; exact ⟨_, e⟩
  | _ => exact c.elim
theorem Cont.mono {a : Addr} {d : D} (l : Same Hf Hf') (e : H' a = H a) (c : Cont K Hf H a d) : Cont K Hf' H' a d := by
  cases d with
  | lst ds => obtain ⟨xs, q, r⟩ := c; exact ⟨xs, e.trans q, r.mono l⟩
  | dct ds => obtain ⟨xs, q, r⟩ := c; exact ⟨xs, e.trans q, r.mono l⟩
  | dcn ds => obtain ⟨xs, ep, q, h1, r, h2⟩ := c; exact ⟨xs, ep, e.trans q, h1, r.mono l, h2⟩
  | _ => exact c.elim
theorem StR.slot {i : Nat} {g : Sl} (s : StR K b Hf H σ Γ) (e : Γ[i]? = some g) : ∃ o, σ[i]? = some o ∧ SlOk K b Hf H i o g := by
  have hi : i < σ.length := by rw [s.len]; exact (List.getElem?_eq_some_iff.mp e).1
  exact ⟨σ[i], List.getElem?_eq_getElem hi, s.sl i _ g (List.getElem?_eq_getElem hi) e⟩
theorem StR.muAt {i : Nat} (s : StR K b Hf H σ Γ) (m : mu Γ i) : ∃ a d, σ[i]? = some (some (.ref a)) ∧ Γ[i]?.bind Sl.get = some d ∧ Hf a = none ∧ Cont K Hf H a d ∧ (∃ o, H a = some o) := by
  obtain ⟨d, e | e⟩ := m
  · obtain ⟨o, h1, h2⟩ := s.slot e
    cases h2 with
    | own n h hb => exact ⟨_, d, h1, by rw [e]; rfl, n, h, h.is⟩
  · obtain ⟨o, h1, h2⟩ := s.slot e
    cases h2 with
    | byr n h hr => exact ⟨_, d, h1, by rw [e]; rfl, n, h, h.is⟩
theorem StR.bnone {a : Addr} (s : StR K b Hf H σ Γ) (n : H a = none) : b.B a = none := by
  cases e : b.B a with
  | none => rfl
  | some o => obtain ⟨o', q⟩ := s.dom a o e; rw [n] at q; cases q
theorem StR.fnone {a : Addr} (s : StR K b Hf H σ Γ) (n : H a = none) : Hf a = none := by
  cases e : Hf a with
  | none => rfl
  | some o => rw [s.fz a o e] at n; cases n
theorem StR.mune {i : Nat} {a p : Addr} (s : StR K b Hf H σ Γ) (m : mu Γ i) (e : σ[i]? = some (some (.ref a))) (n : H p = none) : a ≠ p := by
  obtain ⟨a', d, e', _, _, _, o, q⟩ := s.muAt m
  rw [e] at e'
  cases e'
  exact ne_of_none q n
/-- slots kept, both heaps grow -/
theorem StR.grow (s : StR K b Hf H σ Γ) (f : Same Hf Hf') (h : Same H H') (z : Same Hf' H') (n : ∀ a o, Hf' a = some o → Hf a = some o ∨ H a = none) : StR K b Hf' H' σ Γ := by
  have hmu : ∀ i a, mu Γ i → σ[i]? = some (some (.ref a)) → Hf' a = none ∧ H' a = H a := fun i a m e => by
    obtain ⟨a', d, e', _, n1, _, o, q⟩ := s.muAt m
    rw [e] at e'
    cases e'
    refine ⟨?_, by rw [q]; exact h a o q⟩
    cases w : Hf' a with
    | none => rfl
    | some u =>
      rcases n a u w with z | z
      · rw [n1] at z; cases z
      · rw [q] at z; cases z
  refine ⟨s.len, fun i o g e1 e2 => ?_, s.inj, z, s.f0.trans f, fun a o e => ?_, fun a o e => ?_, fun a o e hr => h a o (s.fr a o e hr)⟩
  · cases s.sl i o g e1 e2 with
    | no => exact .no
    | fn r => exact .fn r
    | val r => exact .val (r.mono f)
    | own n1 c hb => obtain ⟨z1, z2⟩ := hmu i _ ⟨_, .inl e2⟩ e1; exact .own z1 (c.mono f z2) hb
    | byr n1 c hb => obtain ⟨z1, z2⟩ := hmu i _ ⟨_, .inr e2⟩ e1; exact .byr z1 (c.mono f z2) hb
  · rcases n a o e with q | q
    · exact s.fresh a o q
    · exact .inr (s.bnone q)
  · obtain ⟨o', q⟩ := s.dom a o e
    exact ⟨o', h a o' q⟩
theorem Ext.grow (f : Same Hf Hf') (h : Same H H') (n : ∀ a o, Hf' a = some o → Hf a = some o ∨ H a = none) : Ext σ Γ Γ Hf H Hf' H' := ⟨f, fun a o e _ => h a o e, n, fun a o e => ⟨o, h a o e⟩, fun _ m => m⟩
/-- a new object, at rest -/
theorem StR.laid {p : Addr} {o : HO} (s : StR K b Hf H σ Γ) (n : H p = none) : StR K b (upd Hf p o) (upd H p o) σ Γ := by
  refine s.grow (sameNew (s.fnone n)) (sameNew n) (fun a u e => ?_) fun a u e => ?_
  · by_cases ha : a = p
    · subst ha; rw [upd_same] at e ⊢; exact e
    · rw [upd_ne ha] at e ⊢; exact s.fz a u e
  · by_cases ha : a = p
    · subst ha; exact .inr n
    · rw [upd_ne ha] at e; exact .inl e
theorem StR.laidX {p : Addr} {o : HO} (s : StR K b Hf H σ Γ) (n : H p = none) : Ext σ Γ Γ Hf H (upd Hf p o) (upd H p o) := by
  refine Ext.grow (sameNew (s.fnone n)) (sameNew n) fun a u e => ?_
  by_cases ha : a = p
  · subst ha; exact .inr n
  · rw [upd_ne ha] at e; exact .inl e
/-- a new object, not yet at rest -/
theorem StR.made {p : Addr} {o : HO} (s : StR K b Hf H σ Γ) (n : H p = none) : StR K b Hf (upd H p o) σ Γ := by
  refine s.grow (Same.refl _) (sameNew n) (fun a u e => ?_) fun a u e => .inl e
  rw [upd_ne (ne_of_none (s.fz a u e) n)]
  exact s.fz a u e
theorem StR.madeX {p : Addr} {o : HO} (s : StR K b Hf H σ Γ) (n : H p = none) : Ext σ Γ Γ Hf H Hf (upd H p o) := Ext.grow (Same.refl _) (sameNew n) fun _ _ e => .inl e
theorem mu_set {Γ : Gm} {i j : Nat} {g : Sl} (m : mu (Γ.set i g) j) (h : j ≠ i) : mu Γ j := by
  obtain ⟨d, e⟩ := m
  rw [List.getElem?_set_ne (Ne.symm h)] at e
  exact ⟨d, e⟩
/-- a slot takes a value at rest -/
theorem StR.setV {i : Nat} {v : V} {d : D} (s : StR K b Hf H σ Γ) (r : Rep K Hf v d) : StR K b Hf H (σ.set i (some v)) (Γ.set i (.val d)) := by
  refine ⟨by rw [List.length_set, List.length_set]; exact s.len, fun j o g e1 e2 => ?_, fun j l a m1 m2 e1 e2 => ?_, s.fz, s.f0, s.fresh, s.dom, s.fr⟩
  · by_cases hj : j = i
    · subst hj
      have h1 : j < σ.length := by have := (List.getElem?_eq_some_iff.mp e1).1; rwa [List.length_set] at this
      have h2 : j < Γ.length := by rw [← s.len]; exact h1
      rw [List.getElem?_set_self h1] at e1
      rw [List.getElem?_set_self h2] at e2
      cases e1
      cases e2
      exact .val r
    · rw [List.getElem?_set_ne (Ne.symm hj)] at e1 e2
      exact s.sl j o g e1 e2
  · have ne : ∀ j, mu (Γ.set i (.val d)) j → j ≠ i := fun j ⟨d', e⟩ hj => by
      subst hj
      by_cases h2 : j < Γ.length
      · rw [List.getElem?_set_self h2] at e; rcases e with e | e <;> cases e
      · rw [List.getElem?_eq_none (by rw [List.length_set]; omega)] at e; rcases e with e | e <;> cases e
    have n1 := ne j m1
    have n2 := ne l m2
    rw [List.getElem?_set_ne (Ne.symm n1)] at e1
    rw [List.getElem?_set_ne (Ne.symm n2)] at e2
    exact s.inj j l a (mu_set m1 n1) (mu_set m2 n2) e1 e2
/-- a slot takes an object of its own -/
theorem StR.setO {i : Nat} {a : Addr} {d : D} (s : StR K b Hf H σ Γ) (n : Hf a = none) (c : Cont K Hf H a d) (hb : b.B a = none) (hn : ∀ j, mu Γ j → σ[j]? ≠ some (some (.ref a))) : StR K b Hf H (σ.set i (some (.ref a))) (Γ.set i (.own d)) := by
  refine ⟨by rw [List.length_set, List.length_set]; exact s.len, fun j o g e1 e2 => ?_, fun j l a' m1 m2 e1 e2 => ?_, s.fz, s.f0, s.fresh, s.dom, s.fr⟩
  · by_cases hj : j = i
    · subst hj
      have h1 : j < σ.length := by have := (List.getElem?_eq_some_iff.mp e1).1; rwa [List.length_set] at this
      have h2 : j < Γ.length := by rw [← s.len]; exact h1
      rw [List.getElem?_set_self h1] at e1
      rw [List.getElem?_set_self h2] at e2
      cases e1
      cases e2
      exact .own n c hb
    · rw [List.getElem?_set_ne (Ne.symm hj)] at e1 e2
      exact s.sl j o g e1 e2
  · have at_ : ∀ j, j = i → (σ.set i (some (V.ref a)))[j]? = some (some (.ref a')) → a' = a := fun j hj e => by
      subst hj
      have h1 : j < σ.length := by have := (List.getElem?_eq_some_iff.mp e).1; rwa [List.length_set] at this
      rw [List.getElem?_set_self h1] at e
      cases e
      rfl
    by_cases h1 : j = i
    · by_cases h2 : l = i
      · exact h1.trans h2.symm
      · have := at_ j h1 e1
        subst this
        rw [List.getElem?_set_ne (Ne.symm h2)] at e2
        exact absurd e2 (hn l (mu_set m2 h2))
    · by_cases h2 : l = i
      · have := at_ l h2 e2
        subst this
        rw [List.getElem?_set_ne (Ne.symm h1)] at e1
        exact absurd e1 (hn j (mu_set m1 h1))
      · rw [List.getElem?_set_ne (Ne.symm h1)] at e1
        rw [List.getElem?_set_ne (Ne.symm h2)] at e2
        exact s.inj j l a' (mu_set m1 h1) (mu_set m2 h2) e1 e2
/-- a slot is forgotten -/
theorem StR.setN {i : Nat} {o : Option V} (s : StR K b Hf H σ Γ) : StR K b Hf H (σ.set i o) (Γ.set i .no) := by
  refine ⟨by rw [List.length_set, List.length_set]; exact s.len, fun j o g e1 e2 => ?_, fun j l a m1 m2 e1 e2 => ?_, s.fz, s.f0, s.fresh, s.dom, s.fr⟩
  · by_cases hj : j = i
    · subst hj
      have h2 : j < Γ.length := by have := (List.getElem?_eq_some_iff.mp e2).1; rwa [List.length_set] at this
      rw [List.getElem?_set_self h2] at e2
      cases e2
      exact .no
    · rw [List.getElem?_set_ne (Ne.symm hj)] at e1 e2
      exact s.sl j o g e1 e2
  · have ne : ∀ j, mu (Γ.set i .no) j → j ≠ i := fun j ⟨d', e⟩ hj => by
      subst hj
      by_cases h2 : j < Γ.length
      · rw [List.getElem?_set_self h2] at e; rcases e with e | e <;> cases e
      · rw [List.getElem?_eq_none (by rw [List.length_set]; omega)] at e; rcases e with e | e <;> cases e
    have n1 := ne j m1
    have n2 := ne l m2
    rw [List.getElem?_set_ne (Ne.symm n1)] at e1
    rw [List.getElem?_set_ne (Ne.symm n2)] at e2
    exact s.inj j l a (mu_set m1 n1) (mu_set m2 n2) e1 e2
end
end Zd

set_option maxHeartbeats 4000000
/-! Expressions over plain data: their runs Ex, and the readings that the hand layer's rules take. -/
namespace Zd
open PySem PySem.Spec PyProof.Rows L2 Pd
abbrev Ex := Gm → Option (D × Gm)
abbrev Tx := Gm → Option (Bool × Gm)
inductive Ov where
  | v (x : D) | s (i : Nat)
abbrev Ox := Gm → Option (Ov × Gm)
abbrev Oxs := Gm → Option (List Ov × Gm)
abbrev Exs := Gm → Option (List D × Gm)
def Ov.get (Γ : Gm) : Ov → Option D
  | .v x => some x
  | .s i => Γ[i]?.bind Sl.get
def ovs (Γ : Gm) : List Ov → Option (List D)
  | [] => some []
  | o :: r => (o.get Γ).bind fun d => (ovs Γ r).map fun ds => d :: ds
def OvR (K : KW) (Hf : Hp) (σ : L2.St) (v : V) : Ov → Prop
  | .v x => Rep K Hf v x
  | .s i => σ[i]? = some (some v)
def OvRs (K : KW) (Hf : Hp) (σ : L2.St) : List V → List Ov → Prop
  | [], [] => True
  | v :: vs, o :: os => OvR K Hf σ v o ∧ OvRs K Hf σ vs os
  | _, _ => False
/-- what may be read now: at rest, or owned -/
def RdH (K : KW) (Hf H : Hp) (v : V) (d : D) : Prop := Rep K Hf v d ∨ ∃ a, v = .ref a ∧ Cont K Hf H a d
def RdHs (K : KW) (Hf H : Hp) : List V → List D → Prop
  | [], [] => True
  | v :: vs, d :: ds => RdH K Hf H v d ∧ RdHs K Hf H vs ds
  | _, _ => False
section
variable {K : KW} {b : Bs} {Hf H Hf' H' : Hp} {σ : L2.St} {Γ Γ' : Gm} {v : V} {d : D}
theorem OvR.mono {o : Ov} (l : Same Hf Hf') (h : OvR K Hf σ v o) : OvR K Hf' σ v o := by
  cases o with
  | v x => exact Rep.mono l h
  | s i => exact h
theorem OvRs.mono (l : Same Hf Hf') : ∀ {vs : List V} {os : List Ov}, OvRs K Hf σ vs os → OvRs K Hf' σ vs os
  | [], [], _ => trivial
  | _ :: _, _ :: _, h => ⟨OvR.mono l h.1, OvRs.mono l h.2⟩
theorem ovRd {o : Ov} (s : StR K b Hf H σ Γ) (h : OvR K Hf σ v o) (e : o.get Γ = some d) : RdH K Hf H v d := by
  cases o with
  | v d' =>
    have : d' = d := Option.some.inj e
    subst this
    exact .inl h
  | s i =>
    cases g : Γ[i]? with
    | none => rw [Ov.get, g] at e; cases e
    | some w =>
      rw [Ov.get, g] at e
      have e : w.get = some d := e
      have hv : σ[i]? = some (some v) := h
      cases s.sl i _ w hv g with
      | no => cases e
      | fn r => cases e
      | val r => cases e; exact .inl r
      | own n c hb => cases e; exact .inr ⟨_, rfl, c⟩
      | byr n c hb => cases e; exact .inr ⟨_, rfl, c⟩
theorem ovRds (s : StR K b Hf H σ Γ) : ∀ {vs : List V} {os : List Ov} {ds : List D}, OvRs K Hf σ vs os → ovs Γ os = some ds → RdHs K Hf H vs ds
  | [], [], ds, _, e => by
    have : [] = ds := Option.some.inj e
    subst this
    trivial
  | v :: vs, o :: os, ds, h, e => by
    rw [ovs, Option.bind_eq_some_iff] at e
    obtain ⟨d, e1, e2⟩ := e
    rw [Option.map_eq_some_iff] at e2
    obtain ⟨ds', e2, rfl⟩ := e2
    exact ⟨ovRd s h.1 e1, ovRds s h.2 e2⟩
theorem rd_int {i : Int} (h : RdH K Hf H v (.int i)) : v = .int i := by
  rcases h with h | ⟨_, _, h⟩
  · cases h; rfl
  · exact h.elim
theorem rd_bl {c : Bool} (h : RdH K Hf H v (.bl c)) : v = .bl c := by
  rcases h with h | ⟨_, _, h⟩
  · cases h; rfl
  · exact h.elim
theorem rd_str {c : Str} (h : RdH K Hf H v (.str c)) : v = .str c := by
  rcases h with h | ⟨_, _, h⟩
  · cases h; rfl
  · exact h.elim
theorem rd_non (h : RdH K Hf H v .non) : v = .non := by
  rcases h with h | ⟨_, _, h⟩
  · cases h; rfl
  · exact h.elim
theorem rd_ty {n : String} (h : RdH K Hf H v (.ty n)) : v = .ty n := by
  rcases h with h | ⟨_, _, h⟩
  · cases h; rfl
  · exact h.elim
theorem rd_lst {ds : List D} (z : Same Hf H) (h : RdH K Hf H v (.lst ds)) : ∃ a xs, v = .ref a ∧ H a = some (.lst xs) ∧ RepAll K Hf xs ds := by
  rcases h with h | ⟨a, e, xs, h1, h2⟩
  · cases h with
    | lst h hs => exact ⟨_, _, rfl, z _ _ h, hs⟩
  · exact ⟨a, xs, e, h1, h2⟩
theorem rd_dct {ds : List (Key × D)} (z : Same Hf H) (h : RdH K Hf H v (.dct ds)) : ∃ a xs, v = .ref a ∧ H a = some (.dK xs) ∧ RepKV K Hf xs ds := by
  rcases h with h | ⟨a, e, xs, h1, h2⟩
  · cases h with
    | dct h hs => exact ⟨_, _, rfl, z _ _ h, hs⟩
  · exact ⟨a, xs, e, h1, h2⟩
theorem rd_tup {ds : List D} (z : Same Hf H) (h : RdH K Hf H v (.tup ds)) : ∃ a xs, v = .ref a ∧ SqT K.f H a xs ∧ SqT K.f Hf a xs ∧ RepAll K Hf xs ds := by
  rcases h with h | ⟨a, e, h⟩
  · cases h with
    | tup h hs => exact ⟨_, _, rfl, sqT_mono z h, h, hs⟩
  · exact h.elim
theorem rd_scr {ns : List Int} (z : Same Hf H) (h : RdH K Hf H v (.scr ns)) : ∃ a, v = .ref a ∧ SqL K.f H a (ns.map V.int) := by
  rcases h with h | ⟨a, e, h⟩
  · cases h with
    | scr h => exact ⟨_, rfl, Same.seq z h⟩
  · exact h.elim
end
theorem StR.grow' {K : KW} {b : Bs} {Hf H Hf' : Hp} {σ : L2.St} {Γ : Gm} (s : StR K b Hf H σ Γ) (f : Same Hf Hf') (z : Same Hf' H) (fr : ∀ a o, Hf' a = some o → b.F a = some o ∨ b.B a = none) (hm : ∀ i a, mu Γ i → σ[i]? = some (some (.ref a)) → Hf' a = Hf a) : StR K b Hf' H σ Γ := by
  refine ⟨s.len, fun i o g e1 e2 => ?_, s.inj, z, s.f0.trans f, fr, s.dom, s.fr⟩
  cases s.sl i o g e1 e2 with
  | no => exact .no
  | fn r => exact .fn r
  | val r => exact .val (r.mono f)
  | own n1 c hb => exact .own (by rw [hm i _ ⟨_, .inl e2⟩ e1]; exact n1) (c.mono f rfl) hb
  | byr n1 c hb => exact .byr (by rw [hm i _ ⟨_, .inr e2⟩ e1]; exact n1) (c.mono f rfl) hb
/-! ### readings -/
def tZ (K : KW) (b : Bs) (f : Ex) : TE := fun σ H Q => ∃ Hf Γ d Γ', StR K b Hf H σ Γ ∧ f Γ = some (d, Γ') ∧ ∀ v Hf' H', StR K b Hf' H' σ Γ' → Ext σ Γ Γ' Hf H Hf' H' → Rep K Hf' v d → Q v H'
def tO (K : KW) (b : Bs) (f : Ox) : TE := fun σ H Q => ∃ Hf Γ o Γ', StR K b Hf H σ Γ ∧ f Γ = some (o, Γ') ∧ ∀ v Hf' H', StR K b Hf' H' σ Γ' → Ext σ Γ Γ' Hf H Hf' H' → OvR K Hf' σ v o → Q v H'
def tOs (K : KW) (b : Bs) (f : Oxs) : TA := fun σ H Q => ∃ Hf Γ os Γ', StR K b Hf H σ Γ ∧ f Γ = some (os, Γ') ∧ ∀ vs Hf' H', StR K b Hf' H' σ Γ' → Ext σ Γ Γ' Hf H Hf' H' → OvRs K Hf' σ vs os → Q vs H'
def tVs (K : KW) (b : Bs) (f : Exs) : TA := fun σ H Q => ∃ Hf Γ ds Γ', StR K b Hf H σ Γ ∧ f Γ = some (ds, Γ') ∧ ∀ vs Hf' H', StR K b Hf' H' σ Γ' → Ext σ Γ Γ' Hf H Hf' H' → RepAll K Hf' vs ds → Q vs H'
/-- a new object that nobody holds yet -/
def tF (K : KW) (b : Bs) (f : Ex) : TE := fun σ H Q => ∃ Hf Γ d Γ', StR K b Hf H σ Γ ∧ f Γ = some (d, Γ') ∧ ∀ a Hf' H', StR K b Hf' H' σ Γ' → Ext σ Γ Γ' Hf H Hf' H' → H a = none → Hf' a = none → Cont K Hf' H' a d → Q (.ref a) H'
def tX (K : KW) (b : Bs) (f : Tx) : TT := fun σ H Q => ∃ Hf Γ c Γ', StR K b Hf H σ Γ ∧ f Γ = some (c, Γ') ∧ ∀ Hf' H', StR K b Hf' H' σ Γ' → Ext σ Γ Γ' Hf H Hf' H' → Q c H'
def Out (K : KW) (b : Bs) (σ : L2.St) (Γ : Gm) (Hf H : Hp) (d : D) (Q : VK) : Prop := ∀ v Hf' H', StR K b Hf' H' σ Γ → Ext σ Γ Γ Hf H Hf' H' → Rep K Hf' v d → Q v H'
def OutF (K : KW) (b : Bs) (σ : L2.St) (Γ : Gm) (Hf H : Hp) (d : D) (Q : VK) : Prop := ∀ a Hf' H', StR K b Hf' H' σ Γ → Ext σ Γ Γ Hf H Hf' H' → H a = none → Hf' a = none → Cont K Hf' H' a d → Q (.ref a) H'
section
variable {K : KW} {b : Bs} {Hf H Hf' H' : Hp} {σ : L2.St} {Γ Γ' : Gm} {v : V} {d : D} {Q : VK}
theorem Out.rest (o : Out K b σ Γ Hf H d Q) (s : StR K b Hf H σ Γ) (r : Rep K Hf v d) : Q v H := o v Hf H s Ext.refl r
theorem Out.lst {p : Addr} {xs : List V} {ds : List D} (o : Out K b σ Γ Hf H (.lst ds) Q) (s : StR K b Hf H σ Γ) (n : H p = none) (r : RepAll K Hf xs ds) : Q (.ref p) (upd H p (.lst xs)) :=
  o _ _ _ (s.laid n) (s.laidX n) (.lst upd_same (r.mono (sameNew (s.fnone n))))
theorem Out.tup {p : Addr} {xs : List V} {ds : List D} (o : Out K b σ Γ Hf H (.tup ds) Q) (s : StR K b Hf H σ Γ) (n : H p = none) (r : RepAll K Hf xs ds) : Q (.ref p) (upd H p (.tup xs)) :=
  o _ _ _ (s.laid n) (s.laidX n) (.tup (SqT.of upd_same) (r.mono (sameNew (s.fnone n))))
theorem Out.dct {p : Addr} {xs : List (Key × V)} {ds : List (Key × D)} (o : Out K b σ Γ Hf H (.dct ds) Q) (s : StR K b Hf H σ Γ) (n : H p = none) (r : RepKV K Hf xs ds) : Q (.ref p) (upd H p (.dK xs)) :=
  o _ _ _ (s.laid n) (s.laidX n) (.dct upd_same (r.mono (sameNew (s.fnone n))))
theorem OutF.lst {p : Addr} {xs : List V} {ds : List D} (o : OutF K b σ Γ Hf H (.lst ds) Q) (s : StR K b Hf H σ Γ) (n : H p = none) (r : RepAll K Hf xs ds) : Q (.ref p) (upd H p (.lst xs)) :=
  o _ _ _ (s.made n) (s.madeX n) n (s.fnone n) ⟨xs, upd_same, r⟩
theorem OutF.dct {p : Addr} {xs : List (Key × V)} {ds : List (Key × D)} (o : OutF K b σ Γ Hf H (.dct ds) Q) (s : StR K b Hf H σ Γ) (n : H p = none) (r : RepKV K Hf xs ds) : Q (.ref p) (upd H p (.dK xs)) :=
  o _ _ _ (s.made n) (s.madeX n) n (s.fnone n) ⟨xs, upd_same, r⟩
/-- an owned object comes to rest -/
theorem StR.restAt {a : Addr} {o : HO} (s : StR K b Hf H σ Γ) (e : H a = some o) (hn : ∀ j, mu Γ j → σ[j]? ≠ some (some (.ref a))) (n : Hf a = none) (hb : b.B a = none) : StR K b (upd Hf a o) H σ Γ := by
  refine s.grow' (sameNew n) (fun x u q => ?_) (fun x u q => ?_) fun j x m ej => ?_
  · by_cases hx : x = a
    · subst hx; rw [upd_same] at q; rw [e]; exact q
    · rw [upd_ne hx] at q; exact s.fz x u q
  · by_cases hx : x = a
    · subst hx; exact .inr hb
    · rw [upd_ne hx] at q; exact s.fresh x u q
  · have : x ≠ a := fun z => hn j m (by rw [← z]; exact ej)
    rw [upd_ne this]
end
end Zd

set_option maxHeartbeats 4000000
/-! The rules of expressions, by runs over plain data. -/
namespace Zd
open PySem PySem.Spec PyProof.Rows L2 Pd
theorem _root_.L2.PE.wk {X : Cx} {e : Expr} {t t' : TE} (h : PE X e t) (w : ∀ σ H Q, t' σ H Q → t σ H Q) : PE X e t' := ⟨fun pins s σ H Q I q => h.run pins s σ H Q I (w σ H Q q)⟩
theorem _root_.L2.PT.wk {X : Cx} {e : Expr} {t t' : TT} (h : PT X e t) (w : ∀ σ H Q, t' σ H Q → t σ H Q) : PT X e t' := ⟨fun pins s σ H Q I q => h.run pins s σ H Q I (w σ H Q q)⟩
theorem _root_.L2.PW.wk {X : Cx} {e : Expr} {t t' : TT} (h : PW X e t) (w : ∀ σ H Q, t' σ H Q → t σ H Q) : PW X e t' := ⟨fun wh pins s σ H Q I q => h.run wh pins s σ H Q I (w σ H Q q)⟩
theorem _root_.L2.PA.wk {X : Cx} {e : List Expr} {t t' : TA} (h : PA X e t) (w : ∀ σ H Q, t' σ H Q → t σ H Q) : PA X e t' := ⟨fun pos pins s σ H Q I q => h.run pos pins s σ H Q I (w σ H Q q)⟩
theorem _root_.L2.PK.wk {X : Cx} {e : List Keyword} {t t' : TA} (h : PK X e t) (w : ∀ σ H Q, t' σ H Q → t σ H Q) : PK X e t' := ⟨fun pos pins s σ H Q I q => h.run pos pins s σ H Q I (w σ H Q q)⟩
theorem opWk {X : Cx} {f : Value → Value → Sem Value} {r r' : R2} (h : OpR X f r) (w : ∀ x y H Q, r' x y H Q → r x y H Q) : OpR X f r' := fun pins s σ H x y v u Q I rx ry q => h pins s σ H x y v u Q I rx ry (w x y H Q q)
theorem ixWk {X : Cx} {r r' : R2} (h : IxR X r) (w : ∀ x y H Q, r' x y H Q → r x y H Q) : IxR X r' := fun va sl pins s σ H x y v u Q I rx ry q hs => h va sl pins s σ H x y v u Q I rx ry (w x y H Q q) hs
theorem unWk {X : Cx} {f : Value → Sem Value} {r r' : V → Hp → VK → Prop} (h : UnR X f r) (w : ∀ x H Q, r' x H Q → r x H Q) : UnR X f r' := fun pins s σ H x v Q I rx q => h pins s σ H x v Q I rx (w x H Q q)
theorem callWk {X : Cx} {f : Value} {r r' : List V → Hp → VK → Prop} (h : CallR X f r) (w : ∀ x H Q, r' x H Q → r x H Q) : CallR X f r' := fun pins s σ H x v Q I rx q => h pins s σ H x v Q I rx (w x H Q q)
/-! ### runs -/
def eC (d : D) : Ex := fun Γ => some (d, Γ)
def eV (i : Nat) : Ex := fun Γ => match Γ[i]? with
  | some (.val d) => some (d, Γ)
  | _ => none
def oE (f : Ex) : Ox := fun Γ => (f Γ).map fun p => (.v p.1, p.2)
def oV (i : Nat) : Ox := fun Γ => (Γ[i]?.bind Sl.get).map fun _ => (.s i, Γ)
def osN : Oxs := fun Γ => some ([], Γ)
def osC (f : Ox) (g : Oxs) : Oxs := fun Γ => (f Γ).bind fun p => (g p.2).map fun q => (p.1 :: q.1, q.2)
def vsN : Exs := fun Γ => some ([], Γ)
def vsC (f : Ex) (g : Exs) : Exs := fun Γ => (f Γ).bind fun p => (g p.2).map fun q => (p.1 :: q.1, q.2)
def eOp2 (r : D → D → Option D) (f g : Ox) : Ex := fun Γ => (f Γ).bind fun p => (g p.2).bind fun q => (p.1.get q.2).bind fun x => (q.1.get q.2).bind fun y => (r x y).map fun d => (d, q.2)
def eOp1 (r : D → Option D) (f : Ox) : Ex := fun Γ => (f Γ).bind fun p => (p.1.get p.2).bind fun x => (r x).map fun d => (d, p.2)
def eFn (r : List D → Option D) (f : Oxs) : Ex := fun Γ => (f Γ).bind fun p => (ovs p.2 p.1).bind fun xs => (r xs).map fun d => (d, p.2)
def eTup (f : Exs) : Ex := fun Γ => (f Γ).map fun p => (.tup p.1, p.2)
def eLst (f : Exs) : Ex := fun Γ => (f Γ).map fun p => (.lst p.1, p.2)
def toB : D → Option Bool
  | .bl c => some c
  | _ => none
theorem toB_some {d : D} {c : Bool} (e : toB d = some c) : d = .bl c := by
  cases d with
  | bl b => exact congrArg D.bl (Option.some.inj e)
  | _ => cases e
def xB (f : Ex) : Tx := fun Γ => (f Γ).bind fun p => (toB p.1).map fun c => (c, p.2)
def xNot (t : Tx) : Tx := fun Γ => (t Γ).map fun p => (!p.1, p.2)
def xAnd (t u : Tx) : Tx := fun Γ => (t Γ).bind fun p => if p.1 = true then u p.2 else some (false, p.2)
def xOr (t u : Tx) : Tx := fun Γ => (t Γ).bind fun p => if p.1 = true then some (true, p.2) else u p.2
def eAnd (f g : Ex) : Ex := fun Γ => (xB f Γ).bind fun p => if p.1 = true then g p.2 else some (.bl false, p.2)
def eOr (f g : Ex) : Ex := fun Γ => (xB f Γ).bind fun p => if p.1 = true then some (.bl true, p.2) else g p.2
def eNot (f : Ex) : Ex := fun Γ => (xB f Γ).map fun p => (.bl (!p.1), p.2)
def eIf (t : Tx) (f g : Ex) : Ex := fun Γ => (t Γ).bind fun p => if p.1 = true then f p.2 else g p.2
/-- a op1 b op2 c -/
def eChain (r r' : D → D → Option D) (f g h : Ox) : Ex := fun Γ => (f Γ).bind fun p => (g p.2).bind fun q => (p.1.get q.2).bind fun x => (q.1.get q.2).bind fun y => match r x y with
  | some (.bl true) => (h q.2).bind fun z => (q.1.get z.2).bind fun y' => (z.1.get z.2).bind fun w => (r' y' w).map fun d => (d, z.2)
  | some (.bl false) => some (.bl false, q.2)
  | _ => none
/-! ### operations by values -/
def rZ (K : KW) (b : Bs) (r : D → D → Option D) : R2 := fun x y H Q => ∃ σ Hf Γ dx dy d, StR K b Hf H σ Γ ∧ RdH K Hf H x dx ∧ RdH K Hf H y dy ∧ r dx dy = some d ∧ Out K b σ Γ Hf H d Q
def rZ1 (K : KW) (b : Bs) (r : D → Option D) : V → Hp → VK → Prop := fun x H Q => ∃ σ Hf Γ dx d, StR K b Hf H σ Γ ∧ RdH K Hf H x dx ∧ r dx = some d ∧ Out K b σ Γ Hf H d Q
def rZN (K : KW) (b : Bs) (r : List D → Option D) : List V → Hp → VK → Prop := fun xs H Q => ∃ σ Hf Γ dx d, StR K b Hf H σ Γ ∧ RdHs K Hf H xs dx ∧ r dx = some d ∧ Out K b σ Γ Hf H d Q
def rZF (K : KW) (b : Bs) (r : D → D → Option D) : R2 := fun x y H Q => ∃ σ Hf Γ dx dy d, StR K b Hf H σ Γ ∧ RdH K Hf H x dx ∧ RdH K Hf H y dy ∧ r dx dy = some d ∧ OutF K b σ Γ Hf H d Q
def rZNF (K : KW) (b : Bs) (r : List D → Option D) : List V → Hp → VK → Prop := fun xs H Q => ∃ σ Hf Γ dx d, StR K b Hf H σ Γ ∧ RdHs K Hf H xs dx ∧ r dx = some d ∧ OutF K b σ Γ Hf H d Q
section
variable {X : Cx} {K : KW} {bs : Bs} {a b c e : Expr} {es : List Expr} {pos : Pos} {f g h : Ex} {fo go ho : Ox} {fs : Exs} {os : Oxs} {x : Str} {i : Nat}
theorem z_c {d : D} {v : V} (h : PE X e (tC v)) (r : ∀ H, Rep K H v d) : PE X e (tZ K bs (eC d)) := h.wk fun σ H Q ⟨Hf, Γ, d', Γ', st, e, q⟩ => by
  have e : some (d, Γ) = some (d', Γ') := e
  cases e
  exact q v Hf H st Ext.refl (r Hf)
theorem z_int {n : Int} {j : Nat} : PE X (.Constant (.int n) j pos) (tZ K bs (eC (.int n))) := z_c pe_int fun _ => .int n
theorem z_bl {n : Bool} {j : Nat} : PE X (.Constant (.bool n) j pos) (tZ K bs (eC (.bl n))) := z_c pe_bl fun _ => .bl n
theorem z_str {n : Str} {j : Nat} : PE X (.Constant (.str n) j pos) (tZ K bs (eC (.str n))) := z_c pe_str fun _ => .str n
theorem z_non {j : Nat} : PE X (.Constant .none j pos) (tZ K bs (eC .non)) := z_c pe_non fun _ => .non
/-- a constant of the module -/
theorem z_gl {d : D} (hg : Gl X x) (h : ∃ u v, X.mg x = some u ∧ RelV v u ∧ ∀ H, Rep K H v d) (hd : (x == ("__debug__" : Str)) = false := by decide) : PE X (.Name x pos) (tZ K bs (eC d)) := by
  obtain ⟨u, v, h1, h2, h3⟩ := h
  exact z_c (pe_glob hg h1 h2 hd) h3
theorem z_var (h : PE X e (tVar i)) : PE X e (tZ K bs (eV i)) := h.wk fun σ H Q ⟨Hf, Γ, d', Γ', st, e, q⟩ => by
  unfold eV at e
  split at e
  · rename_i d eg
    cases e
    obtain ⟨o, h1, h2⟩ := st.slot eg
    cases h2 with
    | val r => exact ⟨_, h1, q _ Hf H st Ext.refl r⟩
  · cases e
theorem o_var (h : PE X e (tVar i)) : PE X e (tO K bs (oV i)) := h.wk fun σ H Q ⟨Hf, Γ, o, Γ', st, e, q⟩ => by
  unfold oV at e
  rw [Option.map_eq_some_iff] at e
  obtain ⟨d, e1, e2⟩ := e
  cases e2
  rw [Option.bind_eq_some_iff] at e1
  obtain ⟨g, e1, e2⟩ := e1
  obtain ⟨o, h1, h2⟩ := st.slot e1
  cases h2 with
  | no => cases e2
  | fn r => cases e2
  | val r => exact ⟨_, h1, q _ Hf H st Ext.refl h1⟩
  | own r => exact ⟨_, h1, q _ Hf H st Ext.refl h1⟩
  | byr r => exact ⟨_, h1, q _ Hf H st Ext.refl h1⟩
theorem o_e (h : PE X e (tZ K bs f)) : PE X e (tO K bs (oE f)) := h.wk fun σ H Q ⟨Hf, Γ, o, Γ', st, e, q⟩ => by
  unfold oE at e
  rw [Option.map_eq_some_iff] at e
  obtain ⟨⟨d, Γ1⟩, e1, e2⟩ := e
  cases e2
  exact ⟨Hf, Γ, d, Γ1, st, e1, fun v Hf' H' s' x r => q v Hf' H' s' x r⟩
theorem os_nil : PA X [] (tOs K bs osN) := pa_nil.wk fun σ H Q ⟨Hf, Γ, o, Γ', st, e, q⟩ => by
  have e : some ([], Γ) = some (o, Γ') := e
  cases e
  exact q [] Hf H st Ext.refl trivial
theorem os_cons (h1 : PE X e (tO K bs fo)) (h2 : PA X es (tOs K bs os)) (hs : starEach (e :: es) X.env = (false, eval e X.env) :: starEach es X.env := by rfl) : PA X (e :: es) (tOs K bs (osC fo os)) := (pa_cons h1 h2 hs).wk fun σ H Q ⟨Hf, Γ, o, Γ', st, e, q⟩ => by
  unfold osC at e
  rw [Option.bind_eq_some_iff] at e
  obtain ⟨⟨o1, Γ1⟩, e1, e2⟩ := e
  rw [Option.map_eq_some_iff] at e2
  obtain ⟨⟨o2, Γ2⟩, e2, e3⟩ := e2
  cases e3
  exact ⟨Hf, Γ, o1, Γ1, st, e1, fun v Hf1 H1 s1 x1 r1 => ⟨Hf1, Γ1, o2, Γ2, s1, e2, fun vs Hf2 H2 s2 x2 r2 => q _ Hf2 H2 s2 (x1.trans x2) ⟨r1.mono x2.f, r2⟩⟩⟩
theorem vs_nil : PA X [] (tVs K bs vsN) := pa_nil.wk fun σ H Q ⟨Hf, Γ, o, Γ', st, e, q⟩ => by
  have e : some ([], Γ) = some (o, Γ') := e
  cases e
  exact q [] Hf H st Ext.refl .nil
theorem vs_cons (h1 : PE X e (tZ K bs f)) (h2 : PA X es (tVs K bs fs)) (hs : starEach (e :: es) X.env = (false, eval e X.env) :: starEach es X.env := by rfl) : PA X (e :: es) (tVs K bs (vsC f fs)) := (pa_cons h1 h2 hs).wk fun σ H Q ⟨Hf, Γ, o, Γ', st, e, q⟩ => by
  unfold vsC at e
  rw [Option.bind_eq_some_iff] at e
  obtain ⟨⟨o1, Γ1⟩, e1, e2⟩ := e
  rw [Option.map_eq_some_iff] at e2
  obtain ⟨⟨o2, Γ2⟩, e2, e3⟩ := e2
  cases e3
  exact ⟨Hf, Γ, o1, Γ1, st, e1, fun v Hf1 H1 s1 x1 r1 => ⟨Hf1, Γ1, o2, Γ2, s1, e2, fun vs Hf2 H2 s2 x2 r2 => q _ Hf2 H2 s2 (x1.trans x2) (.cons (r1.mono x2.f) r2)⟩⟩
theorem tOp_of {r : D → D → Option D} {rr : R2} (hr : ∀ x y H Q, rZ K bs r x y H Q → rr x y H Q) (σ : L2.St) (H : Hp) (Q : VK) (hq : tZ K bs (eOp2 r fo go) σ H Q) : tOp rr (tO K bs fo) (tO K bs go) σ H Q := by
  obtain ⟨Hf, Γ, d, Γ', st, e, q⟩ := hq
  unfold eOp2 at e
  rw [Option.bind_eq_some_iff] at e
  obtain ⟨⟨o1, Γ1⟩, e1, e⟩ := e
  rw [Option.bind_eq_some_iff] at e
  obtain ⟨⟨o2, Γ2⟩, e2, e⟩ := e
  rw [Option.bind_eq_some_iff] at e
  obtain ⟨dx, e3, e⟩ := e
  rw [Option.bind_eq_some_iff] at e
  obtain ⟨dy, e4, e⟩ := e
  rw [Option.map_eq_some_iff] at e
  obtain ⟨d', e5, e⟩ := e
  cases e
  exact ⟨Hf, Γ, o1, Γ1, st, e1, fun v Hf1 H1 s1 x1 r1 => ⟨Hf1, Γ1, o2, Γ2, s1, e2, fun u Hf2 H2 s2 x2 r2 => hr _ _ _ _ ⟨σ, Hf2, Γ2, dx, dy, d, s2, ovRd s2 (r1.mono x2.f) e3, ovRd s2 r2 e4, e5, fun w Hf3 H3 s3 x3 r3 => q w Hf3 H3 s3 ((x1.trans x2).trans x3) r3⟩⟩⟩
theorem z_op {op : Operator} {r : D → D → Option D} (ho : OpR X (binaryOp op) (rZ K bs r)) (ha : PE X a (tO K bs fo)) (hb : PE X b (tO K bs go)) : PE X (.BinOp a op b pos) (tZ K bs (eOp2 r fo go)) :=
  (pe_op ho ha hb).wk fun σ H Q h => tOp_of (fun _ _ _ _ q => q) σ H Q h
theorem z_cmp {op : CmpOp} {r : D → D → Option D} (ho : OpR X (compareOp op) (rZ K bs r)) (ha : PE X a (tO K bs fo)) (hb : PE X b (tO K bs go)) (hm : behindInMarks op b = false) : PE X (.Compare a [op] [b] pos) (tZ K bs (eOp2 r fo go)) :=
  (pe_cmpR ho ha hb hm).wk fun σ H Q h => tOp_of (fun _ _ _ _ q => q) σ H Q h
theorem z_ix {r : D → D → Option D} (ho : IxR X (rZ K bs r)) (ha : PE X a (tO K bs fo)) (hb : PE X b (tO K bs go)) (hs : PlainIx b) : PE X (.Subscript a b pos) (tZ K bs (eOp2 r fo go)) :=
  (pe_ix ho ha hb hs).wk fun σ H Q h => tOp_of (fun _ _ _ _ q => q) σ H Q h
theorem z_un {op : UnaryOp} {r : D → Option D} (ho : UnR X (unaryOp op) (rZ1 K bs r)) (ha : PE X a (tO K bs fo)) : PE X (.UnaryOp op a pos) (tZ K bs (eOp1 r fo)) := (pe_un ho ha).wk fun σ H Q hq => by
  obtain ⟨Hf, Γ, d, Γ', st, e, q⟩ := hq
  unfold eOp1 at e
  rw [Option.bind_eq_some_iff] at e
  obtain ⟨⟨o1, Γ1⟩, e1, e⟩ := e
  rw [Option.bind_eq_some_iff] at e
  obtain ⟨dx, e3, e⟩ := e
  rw [Option.map_eq_some_iff] at e
  obtain ⟨d', e5, e⟩ := e
  cases e
  exact ⟨Hf, Γ, o1, Γ1, st, e1, fun v Hf1 H1 s1 x1 r1 => ⟨σ, Hf1, Γ1, dx, d, s1, ovRd s1 r1 e3, e5, fun w Hf3 H3 s3 x3 r3 => q w Hf3 H3 s3 (x1.trans x3) r3⟩⟩
theorem tCB_of {r : List D → Option D} (σ : L2.St) (H : Hp) (Q : VK) (hq : tZ K bs (eFn r os) σ H Q) : tCB (rZN K bs r) (tOs K bs os) σ H Q := by
  obtain ⟨Hf, Γ, d, Γ', st, e, q⟩ := hq
  unfold eFn at e
  rw [Option.bind_eq_some_iff] at e
  obtain ⟨⟨o1, Γ1⟩, e1, e⟩ := e
  rw [Option.bind_eq_some_iff] at e
  obtain ⟨dx, e3, e⟩ := e
  rw [Option.map_eq_some_iff] at e
  obtain ⟨d', e5, e⟩ := e
  cases e
  exact ⟨Hf, Γ, o1, Γ1, st, e1, fun v Hf1 H1 s1 x1 r1 => ⟨σ, Hf1, Γ1, dx, d, s1, ovRds s1 r1 e3, e5, fun w Hf3 H3 s3 x3 r3 => q w Hf3 H3 s3 (x1.trans x3) r3⟩⟩
theorem tCBF_of {r : List D → Option D} (σ : L2.St) (H : Hp) (Q : VK) (hq : tF K bs (eFn r os) σ H Q) : tCB (rZNF K bs r) (tOs K bs os) σ H Q := by
  obtain ⟨Hf, Γ, d, Γ', st, e, q⟩ := hq
  unfold eFn at e
  rw [Option.bind_eq_some_iff] at e
  obtain ⟨⟨o1, Γ1⟩, e1, e⟩ := e
  rw [Option.bind_eq_some_iff] at e
  obtain ⟨dx, e3, e⟩ := e
  rw [Option.map_eq_some_iff] at e
  obtain ⟨d', e5, e⟩ := e
  cases e
  refine ⟨Hf, Γ, o1, Γ1, st, e1, fun v Hf1 H1 s1 x1 r1 => ⟨σ, Hf1, Γ1, dx, d, s1, ovRds s1 r1 e3, e5, fun a Hf3 H3 s3 x3 n1 n2 r3 => q a Hf3 H3 s3 (x1.trans x3) ?_ n2 r3⟩⟩
  cases z : H a with
  | none => rfl
  | some u => obtain ⟨o', w⟩ := x1.dm a u z; rw [n1] at w; cases w
theorem z_fn {id : String} {r : List D → Option D} (hc : CallR X (.builtin id) (rZN K bs r)) (hg : Gl X x) (hm : X.mg x = none) (hv : bootBuiltins x = some (.builtin id)) (ha : PA X (e :: es) (tOs K bs os)) (hn : x ≠ "__name__" := by decide) (hdb : (x == ("__debug__" : Str)) = false := by decide)
    (he : starEach (e :: es) X.env = (false, eval e X.env) :: starEach es X.env := by rfl) {p : Pos} (hpl : (backTo pos (starEach es X.env)).any (·.1) = false := by rfl) : PE X (.Call (.Name x p) (e :: es) [] pos) (tZ K bs (eFn r os)) :=
  (pe_callB hc hg hm hv ha hn hdb he hpl).wk fun σ H Q h => tCB_of σ H Q h
theorem z_tyc {id : String} {r : List D → Option D} (hc : CallR X (.type id) (rZN K bs r)) (hg : Gl X x) (hm : X.mg x = none) (hv : bootBuiltins x = some (.type id)) (ha : PA X (e :: es) (tOs K bs os)) (hn : x ≠ "__name__" := by decide) (hdb : (x == ("__debug__" : Str)) = false := by decide)
    (he : starEach (e :: es) X.env = (false, eval e X.env) :: starEach es X.env := by rfl) {p : Pos} (hpl : (backTo pos (starEach es X.env)).any (·.1) = false := by rfl) : PE X (.Call (.Name x p) (e :: es) [] pos) (tZ K bs (eFn r os)) :=
  (pe_callTy hc hg hm hv ha hn hdb he hpl).wk fun σ H Q h => tCB_of σ H Q h
theorem f_fn {id : String} {r : List D → Option D} (hc : CallR X (.builtin id) (rZNF K bs r)) (hg : Gl X x) (hm : X.mg x = none) (hv : bootBuiltins x = some (.builtin id)) (ha : PA X (e :: es) (tOs K bs os)) (hn : x ≠ "__name__" := by decide) (hdb : (x == ("__debug__" : Str)) = false := by decide)
    (he : starEach (e :: es) X.env = (false, eval e X.env) :: starEach es X.env := by rfl) {p : Pos} (hpl : (backTo pos (starEach es X.env)).any (·.1) = false := by rfl) : PE X (.Call (.Name x p) (e :: es) [] pos) (tF K bs (eFn r os)) :=
  (pe_callB hc hg hm hv ha hn hdb he hpl).wk fun σ H Q h => tCBF_of σ H Q h
theorem f_tyc {id : String} {r : List D → Option D} (hc : CallR X (.type id) (rZNF K bs r)) (hg : Gl X x) (hm : X.mg x = none) (hv : bootBuiltins x = some (.type id)) (ha : PA X (e :: es) (tOs K bs os)) (hn : x ≠ "__name__" := by decide) (hdb : (x == ("__debug__" : Str)) = false := by decide)
    (he : starEach (e :: es) X.env = (false, eval e X.env) :: starEach es X.env := by rfl) {p : Pos} (hpl : (backTo pos (starEach es X.env)).any (·.1) = false := by rfl) : PE X (.Call (.Name x p) (e :: es) [] pos) (tF K bs (eFn r os)) :=
  (pe_callTy hc hg hm hv ha hn hdb he hpl).wk fun σ H Q h => tCBF_of σ H Q h
/-- displays -/
theorem z_tup {x1} (h : PA X es (tVs K bs fs)) (hn : ∀ Γ ds Γ', fs Γ = some (ds, Γ') → ds.length ≤ 100000) : PE X (.Tuple es x1 pos) (tZ K bs (eTup fs)) := (pe_tup h).wk fun σ H Q hq => by
  obtain ⟨Hf, Γ, d, Γ', st, e, q⟩ := hq
  unfold eTup at e
  rw [Option.map_eq_some_iff] at e
  obtain ⟨⟨ds, Γ1⟩, e1, e⟩ := e
  cases e
  exact ⟨Hf, Γ, ds, Γ1, st, e1, fun vs Hf1 H1 s1 x1 r1 => ⟨by rw [r1.len]; exact Nat.le_trans (hn _ _ _ e1) (by decide), fun p np => q _ _ _ (s1.laid np) (x1.trans (s1.laidX np)) (.tup (SqT.of upd_same) (r1.mono (sameNew (s1.fnone np))))⟩⟩
theorem f_lst (h : PA X es (tVs K bs fs)) (hn : ∀ Γ ds Γ', fs Γ = some (ds, Γ') → ds.length ≤ 100000) : PE X (.List es pos) (tF K bs (eLst fs)) := (pe_lst h).wk fun σ H Q hq => by
  obtain ⟨Hf, Γ, d, Γ', st, e, q⟩ := hq
  unfold eLst at e
  rw [Option.map_eq_some_iff] at e
  obtain ⟨⟨ds, Γ1⟩, e1, e⟩ := e
  cases e
  refine ⟨Hf, Γ, ds, Γ1, st, e1, fun vs Hf1 H1 s1 x1 r1 => ⟨by rw [r1.len]; exact Nat.le_trans (hn _ _ _ e1) (by decide), fun p np => q _ _ _ (s1.made np) (x1.trans (s1.madeX np)) ?_ (s1.fnone np) ⟨vs, upd_same, r1⟩⟩⟩
  cases z : H p with
  | none => rfl
  | some u => obtain ⟨o', w⟩ := x1.dm p u z; rw [np] at w; cases w
/-- a new object comes to rest at once -/
theorem z_f (h : PE X e (tF K bs f)) : PE X e (tZ K bs f) := h.wk fun σ H Q hq => by
  obtain ⟨Hf, Γ, d, Γ', st, e, q⟩ := hq
  refine ⟨Hf, Γ, d, Γ', st, e, fun a Hf1 H1 s1 x1 n1 n2 c => ?_⟩
  have hn : ∀ j, mu Γ' j → σ[j]? ≠ some (some (.ref a)) := fun j m ej => st.mune (x1.k j m) ej n1 rfl
  have ne : ∀ o, H1 a = some o → Ext σ Γ Γ' Hf H (upd Hf1 a o) H1 := fun o eo => ⟨x1.f.trans (sameNew n2), x1.h, fun y u z => by
    by_cases hy : y = a
    · subst hy; exact .inr n1
    · rw [upd_ne hy] at z; exact x1.n y u z, x1.dm, x1.k⟩
  cases d with
  | lst ds =>
    obtain ⟨xs, e1, r⟩ := c
    exact q _ _ _ (s1.restAt e1 hn n2 (st.bnone n1)) (ne _ e1) (.lst upd_same (r.mono (sameNew n2)))
  | dct ds =>
    obtain ⟨xs, e1, r⟩ := c
    exact q _ _ _ (s1.restAt e1 hn n2 (st.bnone n1)) (ne _ e1) (.dct upd_same (r.mono (sameNew n2)))
  | dcn ds =>
    obtain ⟨xs, ep, e1, hl, r, nd⟩ := c
    exact q _ _ _ (s1.restAt e1 hn n2 (st.bnone n1)) (ne _ e1) (.dcn upd_same hl (r.mono (sameNew n2)) nd)
  | _ => exact c.elim
theorem len_vsN {n : Nat} : ∀ Γ ds Γ', vsN Γ = some (ds, Γ') → ds.length ≤ n := fun Γ ds Γ' e => by
  have e : some (([] : List D), Γ) = some (ds, Γ') := e
  cases e
  exact Nat.zero_le _
theorem len_vsC {n : Nat} (h : ∀ Γ ds Γ', fs Γ = some (ds, Γ') → ds.length ≤ n) : ∀ Γ ds Γ', vsC f fs Γ = some (ds, Γ') → ds.length ≤ n + 1 := fun Γ ds Γ' e => by
  unfold vsC at e
  rw [Option.bind_eq_some_iff] at e
  obtain ⟨⟨o1, Γ1⟩, e1, e2⟩ := e
  rw [Option.map_eq_some_iff] at e2
  obtain ⟨⟨o2, Γ2⟩, e2, e3⟩ := e2
  cases e3
  exact Nat.succ_le_succ (h _ _ _ e2)
end
end Zd

set_option maxHeartbeats 4000000
namespace Zd
open PySem PySem.Spec PyProof.Rows L2 Pd
/-! ### truth, tests -/
def truD : D → Option Bool
  | .non => some false
  | .bl b => some b
  | .int i => some (i != 0)
  | .lst ds => some !ds.isEmpty
  | .tup ds => some !ds.isEmpty
  | .dct ds => some !ds.isEmpty
  | _ => none
def xTru (f : Ox) : Tx := fun Γ => (f Γ).bind fun p => (p.1.get p.2).bind fun d => (truD d).map fun c => (c, p.2)
section
variable {X : Cx} {K : KW} {bs : Bs} {a b c e o : Expr} {es rest : List Expr} {pos : Pos} {f g h : Ex} {fo go ho : Ox} {fs : Exs} {os : Oxs} {x : Str} {i : Nat} {t u : Tx}
theorem isEmpty_len {α β : Type} {xs : List α} {ys : List β} (h : xs.length = ys.length) : xs.isEmpty = ys.isEmpty := by
  cases xs <;> cases ys <;> first | rfl | cases h
theorem x_tru (ha : PE X a (tO X.kw bs fo)) (he : ∀ whole, isTrue a X.env whole = (do let v ← whole; standAt a.pos; holding [v] (truthy v)) := by intro _; rfl) : PT X a (tX X.kw bs (xTru fo)) := (pt_truth ha he).wk fun σ H Q hq => by
  obtain ⟨Hf, Γ, c, Γ', st, e, q⟩ := hq
  unfold xTru at e
  rw [Option.bind_eq_some_iff] at e
  obtain ⟨⟨o1, Γ1⟩, e1, e⟩ := e
  rw [Option.bind_eq_some_iff] at e
  obtain ⟨d, e3, e⟩ := e
  rw [Option.map_eq_some_iff] at e
  obtain ⟨c', e5, e⟩ := e
  cases e
  refine ⟨Hf, Γ, o1, Γ1, st, e1, fun v Hf1 H1 s1 x1 r1 => ⟨c, ?_, q _ _ s1 x1⟩⟩
  have rd := ovRd s1 r1 e3
  cases d with
  | non => rw [rd_non rd]; exact (Option.some.inj e5).symm
  | bl b => rw [rd_bl rd]; exact (Option.some.inj e5).symm
  | int i => rw [rd_int rd]; exact (Option.some.inj e5).symm
  | lst ds =>
    obtain ⟨a, xs, rfl, h1, h2⟩ := rd_lst s1.fz rd
    exact .inl ⟨xs, SqL.of h1, by rw [isEmpty_len h2.len]; exact (Option.some.inj e5).symm⟩
  | tup ds =>
    obtain ⟨a, xs, rfl, h1, _, h2⟩ := rd_tup s1.fz rd
    exact .inr (.inl ⟨xs, h1, by rw [isEmpty_len h2.len]; exact (Option.some.inj e5).symm⟩)
  | dct ds =>
    obtain ⟨a, xs, rfl, h1, h2⟩ := rd_dct s1.fz rd
    exact .inr (.inr ⟨xs, h1, by rw [isEmpty_len h2.len]; exact (Option.some.inj e5).symm⟩)
  | _ => cases e5
theorem xB_some {Γ Γ' : Gm} {c : Bool} (e : xB f Γ = some (c, Γ')) : f Γ = some (.bl c, Γ') := by
  unfold xB at e
  rw [Option.bind_eq_some_iff] at e
  obtain ⟨⟨d, Γ1⟩, e1, e⟩ := e
  rw [Option.map_eq_some_iff] at e
  obtain ⟨c', e2, e3⟩ := e
  cases e3
  have e2 : toB d = some c := e2
  have := toB_some e2
  subst this
  exact e1
/-- a test whose value is a bool -/
theorem tTest_of (σ : L2.St) (H : Hp) (Q : Bool → Hp → Prop) (hq : tX K bs (xB f) σ H Q) : tTest (tZ K bs f) σ H Q := by
  obtain ⟨Hf, Γ, c, Γ', st, e, q⟩ := hq
  refine ⟨Hf, Γ, _, Γ', st, xB_some e, fun v Hf1 H1 s1 x1 r1 => ?_⟩
  cases r1
  exact ⟨_, rfl, q _ _ s1 x1⟩
theorem x_cmp {op : CmpOp} {r : D → D → Option D} (ho : OpR X (compareOp op) (rZ K bs r)) (ha : PE X a (tO K bs fo)) (hb : PE X b (tO K bs go)) (hm : behindInMarks op b = false) : PT X (.Compare a [op] [b] pos) (tX K bs (xB (eOp2 r fo go))) :=
  (pt_cmpR ho ha hb hm).wk fun σ H Q h => by
    have := tTest_of σ H Q h
    obtain ⟨Hf, Γ, d, Γ', st, e, q⟩ := this
    exact tOp_of (fun _ _ _ _ q => q) σ H _ ⟨Hf, Γ, d, Γ', st, e, q⟩
theorem x_not (h : PT X a (tX K bs t)) : PT X (.UnaryOp .Not a pos) (tX K bs (xNot t)) := (pt_not h).wk fun σ H Q hq => by
  obtain ⟨Hf, Γ, c, Γ', st, e, q⟩ := hq
  unfold xNot at e
  rw [Option.map_eq_some_iff] at e
  obtain ⟨⟨c', Γ1⟩, e1, e⟩ := e
  cases e
  exact ⟨Hf, Γ, c', Γ1, st, e1, fun Hf1 H1 s1 x1 => q _ _ s1 x1⟩
theorem w_and1 (ha : PT X a (tX K bs t)) : PW X (.BoolOp .And [a] pos) (tX K bs t) := pw_and1 ha
theorem w_or1 (ha : PT X a (tX K bs t)) : PW X (.BoolOp .Or [a] pos) (tX K bs t) := pw_or1 ha
theorem w_and (ha : PT X a (tX K bs t)) (hb : PW X (.BoolOp .And (b :: rest) pos) (tX K bs u)) : PW X (.BoolOp .And (a :: b :: rest) pos) (tX K bs (xAnd t u)) := (pw_and ha hb).wk fun σ H Q hq => by
  obtain ⟨Hf, Γ, c, Γ', st, e, q⟩ := hq
  unfold xAnd at e
  rw [Option.bind_eq_some_iff] at e
  obtain ⟨⟨c', Γ1⟩, e1, e⟩ := e
  cases c' with
  | true => exact ⟨Hf, Γ, true, Γ1, st, e1, fun Hf1 H1 s1 x1 => iteT ⟨Hf1, Γ1, c, Γ', s1, e, fun Hf2 H2 s2 x2 => q _ _ s2 (x1.trans x2)⟩⟩
  | false =>
    have e : some (false, Γ1) = some (c, Γ') := e
    cases e
    exact ⟨Hf, Γ, false, _, st, e1, fun Hf1 H1 s1 x1 => iteF (q _ _ s1 x1)⟩
theorem w_or (ha : PT X a (tX K bs t)) (hb : PW X (.BoolOp .Or (b :: rest) pos) (tX K bs u)) : PW X (.BoolOp .Or (a :: b :: rest) pos) (tX K bs (xOr t u)) := (pw_or ha hb).wk fun σ H Q hq => by
  obtain ⟨Hf, Γ, c, Γ', st, e, q⟩ := hq
  unfold xOr at e
  rw [Option.bind_eq_some_iff] at e
  obtain ⟨⟨c', Γ1⟩, e1, e⟩ := e
  cases c' with
  | false => exact ⟨Hf, Γ, false, Γ1, st, e1, fun Hf1 H1 s1 x1 => iteF ⟨Hf1, Γ1, c, Γ', s1, e, fun Hf2 H2 s2 x2 => q _ _ s2 (x1.trans x2)⟩⟩
  | true =>
    have e : some (true, Γ1) = some (c, Γ') := e
    cases e
    exact ⟨Hf, Γ, true, _, st, e1, fun Hf1 H1 s1 x1 => iteT (q _ _ s1 x1)⟩
/-! ### bools as values -/
theorem z_one {op} (h : PE X a (tZ K bs f)) : PE X (.BoolOp op [a] pos) (tZ K bs f) := pe_one h
theorem z_and (ha : PE X a (tZ K bs f)) (hb : PE X (.BoolOp .And (b :: rest) pos) (tZ K bs g)) : PE X (.BoolOp .And (a :: b :: rest) pos) (tZ K bs (eAnd f g)) := (pe_and ha hb).wk fun σ H Q hq => by
  obtain ⟨Hf, Γ, d, Γ', st, e, q⟩ := hq
  unfold eAnd at e
  rw [Option.bind_eq_some_iff] at e
  obtain ⟨⟨c', Γ1⟩, e1, e⟩ := e
  refine ⟨Hf, Γ, _, Γ1, st, xB_some e1, fun v Hf1 H1 s1 x1 r1 => ?_⟩
  cases r1
  refine ⟨_, rfl, ?_⟩
  cases c' with
  | true => exact iteT ⟨Hf1, Γ1, d, Γ', s1, e, fun w Hf2 H2 s2 x2 r2 => q _ _ _ s2 (x1.trans x2) r2⟩
  | false =>
    have e : some (D.bl false, Γ1) = some (d, Γ') := e
    cases e
    exact iteF (q _ _ _ s1 x1 (.bl false))
theorem z_or (ha : PE X a (tZ K bs f)) (hb : PE X (.BoolOp .Or (b :: rest) pos) (tZ K bs g)) : PE X (.BoolOp .Or (a :: b :: rest) pos) (tZ K bs (eOr f g)) := (pe_or ha hb).wk fun σ H Q hq => by
  obtain ⟨Hf, Γ, d, Γ', st, e, q⟩ := hq
  unfold eOr at e
  rw [Option.bind_eq_some_iff] at e
  obtain ⟨⟨c', Γ1⟩, e1, e⟩ := e
  refine ⟨Hf, Γ, _, Γ1, st, xB_some e1, fun v Hf1 H1 s1 x1 r1 => ?_⟩
  cases r1
  refine ⟨_, rfl, ?_⟩
  cases c' with
  | false => exact iteF ⟨Hf1, Γ1, d, Γ', s1, e, fun w Hf2 H2 s2 x2 r2 => q _ _ _ s2 (x1.trans x2) r2⟩
  | true =>
    have e : some (D.bl true, Γ1) = some (d, Γ') := e
    cases e
    exact iteT (q _ _ _ s1 x1 (.bl true))
theorem z_not (ha : PE X a (tZ K bs f)) : PE X (.UnaryOp .Not a pos) (tZ K bs (eNot f)) := (pe_not ha).wk fun σ H Q hq => by
  obtain ⟨Hf, Γ, d, Γ', st, e, q⟩ := hq
  unfold eNot at e
  rw [Option.map_eq_some_iff] at e
  obtain ⟨⟨c', Γ1⟩, e1, e⟩ := e
  cases e
  refine ⟨Hf, Γ, _, Γ1, st, xB_some e1, fun v Hf1 H1 s1 x1 r1 => ?_⟩
  cases r1
  exact ⟨_, rfl, q _ _ _ s1 x1 (.bl _)⟩
theorem z_if {c : Expr} (hc : PT X c (tX K bs t)) (ha : PE X a (tZ K bs f)) (hb : PE X b (tZ K bs g)) : PE X (.IfExp c a b pos) (tZ K bs (eIf t f g)) := (pe_ifExp hc ha hb).wk fun σ H Q hq => by
  obtain ⟨Hf, Γ, d, Γ', st, e, q⟩ := hq
  unfold eIf at e
  rw [Option.bind_eq_some_iff] at e
  obtain ⟨⟨c', Γ1⟩, e1, e⟩ := e
  refine ⟨Hf, Γ, c', Γ1, st, e1, fun Hf1 H1 s1 x1 => ?_⟩
  cases c' with
  | true => exact iteT ⟨Hf1, Γ1, d, Γ', s1, e, fun w Hf2 H2 s2 x2 r2 => q _ _ _ s2 (x1.trans x2) r2⟩
  | false => exact iteF ⟨Hf1, Γ1, d, Γ', s1, e, fun w Hf2 H2 s2 x2 r2 => q _ _ _ s2 (x1.trans x2) r2⟩
/-! ### a op b op c -/
theorem chain_of {r r' : D → D → Option D} (σ : L2.St) (H : Hp) (Q : VK) (hq : tZ K bs (eChain r r' fo go ho) σ H Q) : tChain (rZ K bs r) (rZ K bs r') (tO K bs fo) (tO K bs go) (tO K bs ho) σ H Q := by
  obtain ⟨Hf, Γ, d, Γ', st, e, q⟩ := hq
  unfold eChain at e
  rw [Option.bind_eq_some_iff] at e
  obtain ⟨⟨o1, Γ1⟩, e1, e⟩ := e
  rw [Option.bind_eq_some_iff] at e
  obtain ⟨⟨o2, Γ2⟩, e2, e⟩ := e
  rw [Option.bind_eq_some_iff] at e
  obtain ⟨dx, e3, e⟩ := e
  rw [Option.bind_eq_some_iff] at e
  obtain ⟨dy, e4, e⟩ := e
  refine ⟨Hf, Γ, o1, Γ1, st, e1, fun v Hf1 H1 s1 x1 r1 => ⟨Hf1, Γ1, o2, Γ2, s1, e2, fun u Hf2 H2 s2 x2 r2 => ?_⟩⟩
  split at e
  · rename_i e5
    rw [Option.bind_eq_some_iff] at e
    obtain ⟨⟨o3, Γ3⟩, e6, e⟩ := e
    rw [Option.bind_eq_some_iff] at e
    obtain ⟨dy', e7, e⟩ := e
    rw [Option.bind_eq_some_iff] at e
    obtain ⟨dw, e8, e⟩ := e
    rw [Option.map_eq_some_iff] at e
    obtain ⟨d', e9, e⟩ := e
    cases e
    refine ⟨σ, Hf2, Γ2, dx, dy, _, s2, ovRd s2 (r1.mono x2.f) e3, ovRd s2 r2 e4, e5, fun w Hf3 H3 s3 x3 r3 => ?_⟩
    cases r3
    refine ⟨_, rfl, iteT ⟨Hf3, Γ2, o3, Γ3, s3, e6, fun w Hf4 H4 s4 x4 r4 => ?_⟩⟩
    exact ⟨σ, Hf4, Γ3, dy', dw, d, s4, ovRd s4 (r2.mono (x3.f.trans x4.f)) e7, ovRd s4 r4 e8, e9, fun w Hf5 H5 s5 x5 r5 => q _ _ _ s5 ((((x1.trans x2).trans x3).trans x4).trans x5) r5⟩
  · rename_i e5
    cases e
    refine ⟨σ, Hf2, Γ2, dx, dy, _, s2, ovRd s2 (r1.mono x2.f) e3, ovRd s2 r2 e4, e5, fun w Hf3 H3 s3 x3 r3 => ?_⟩
    cases r3
    exact ⟨_, rfl, iteF (q _ _ _ s3 ((x1.trans x2).trans x3) (.bl false))⟩
  · cases e
theorem z_chain {op op' : CmpOp} {r r' : D → D → Option D} (ho1 : OpR X (compareOp op) (rZ K bs r)) (ho2 : OpR X (compareOp op') (rZ K bs r')) (ha : PE X a (tO K bs fo)) (hb : PE X b (tO K bs go)) (hc : PE X c (tO K bs ho))
    (hm : lastMarks [op, op'] [b, c] = false := by with_unfolding_all rfl) : PE X (.Compare a [op, op'] [b, c] pos) (tZ K bs (eChain r r' fo go ho)) := (pe_chain ho1 ho2 ha hb hc hm).wk fun σ H Q h => chain_of σ H Q h
theorem x_chain {op op' : CmpOp} {r r' : D → D → Option D} (ho1 : OpR X (compareOp op) (rZ K bs r)) (ho2 : OpR X (compareOp op') (rZ K bs r')) (ha : PE X a (tO K bs fo)) (hb : PE X b (tO K bs go)) (hc : PE X c (tO K bs ho))
    (hm : lastMarks [op, op'] [b, c] = false := by with_unfolding_all rfl) : PT X (.Compare a [op, op'] [b, c] pos) (tX K bs (xB (eChain r r' fo go ho))) := (pt_chain ho1 ho2 ha hb hc hm).wk fun σ H Q h => by
  obtain ⟨Hf, Γ, d, Γ', st, e, q⟩ := tTest_of σ H Q h
  exact chain_of σ H _ ⟨Hf, Γ, d, Γ', st, e, q⟩
end
end Zd

set_option maxHeartbeats 4000000
namespace Zd
open PySem PySem.Spec PyProof.Rows L2 Pd
/-! ### ints -/
def smI (i : Int) : Bool := decide (-18446744073709551616 < i) && decide (i < 18446744073709551616)
def addD : D → D → Option D
  | .int i, .int j => some (.int (i + j))
  | .str x, .str y => if x.length + y.length ≤ 10000000 then some (.str (x ++ y)) else none
  | .lst xs, .lst ys => if xs.length + ys.length ≤ 10000000 then some (.lst (xs ++ ys)) else none
  | .tup xs, .tup ys => if xs.length + ys.length ≤ 10000000 then some (.tup (xs ++ ys)) else none
  | _, _ => none
def catD : D → D → Option D
  | .lst xs, .lst ys => if xs.length + ys.length ≤ 10000000 then some (.lst (xs ++ ys)) else none
  | _, _ => none
def subD : D → D → Option D
  | .int i, .int j => some (.int (i - j))
  | _, _ => none
def mulD : D → D → Option D
  | .int i, .int j => if smI i || smI j then some (.int (i * j)) else none
  | .lst xs, .int k => if k ≤ 1000000 ∧ xs.length * k.toNat ≤ 10000000 ∧ -1000000 ≤ k then some (.lst (List.replicate k.toNat xs).flatten) else none
  | .tup xs, .int k => if xs ≠ [] ∧ 1 ≤ k ∧ k ≤ 1000 ∧ xs.length ≤ 1000 then some (.tup (List.replicate k.toNat xs).flatten) else none
  | _, _ => none
def repD : D → D → Option D
  | .lst xs, .int k => if k ≤ 1000000 ∧ xs.length * k.toNat ≤ 10000000 ∧ -1000000 ≤ k then some (.lst (List.replicate k.toNat xs).flatten) else none
  | _, _ => none
def divD : D → D → Option D
  | .int i, .int j => if 0 < j ∧ j < 1073741824 then some (.int (i / j)) else none
  | _, _ => none
def modD : D → D → Option D
  | .int i, .int j => if 0 < j then some (.int (i % j)) else none
  | _, _ => none
def powD : D → D → Option D
  | .int i, .int j => if 0 ≤ j ∧ j ≤ 1000000 ∧ smI i = true then some (.int (i ^ j.toNat)) else none
  | _, _ => none
def negD : D → Option D
  | .int i => some (.int (-i))
  | _ => none
def ltD : D → D → Option D
  | .int i, .int j => some (.bl (decide (i < j)))
  | _, _ => none
def leD : D → D → Option D
  | .int i, .int j => some (.bl (decide (i ≤ j)))
  | _, _ => none
def gtD : D → D → Option D
  | .int i, .int j => some (.bl (decide (j < i)))
  | _, _ => none
def geD : D → D → Option D
  | .int i, .int j => some (.bl (decide (j ≤ i)))
  | _, _ => none
theorem szL {n : Nat} (h : n ≤ 10000000) : n ≤ sizeLine := Nat.le_trans h (by rw [sizeLine_eq]; decide)
theorem smI_ok {i : Int} (h : smI i = true) : -(2 ^ 64) < i ∧ i < 2 ^ 64 := by
  unfold smI at h
  rw [Bool.and_eq_true, decide_eq_true_eq, decide_eq_true_eq] at h
  exact ⟨by omega, by omega⟩
section
variable {X : Cx} {bs : Bs}
theorem rep_nil {K : KW} {H : Hp} {xs : List V} {ds : List D} (r : RepAll K H xs ds) : xs = [] ↔ ds = [] := by
  have := r.len
  constructor
  · rintro rfl; exact List.eq_nil_of_length_eq_zero this.symm
  · rintro rfl; exact List.eq_nil_of_length_eq_zero this
theorem oz_add : OpR X (binaryOp .Add) (rZ X.kw bs addD) := opWk (op_add.or (op_add_str.or (op_cat.or op_catA))) fun x y H Q h => by
  obtain ⟨σ, Hf, Γ, dx, dy, d, st, rx, ry, e, q⟩ := h
  unfold addD at e
  split at e
  · cases e
    rw [rd_int rx, rd_int ry]
    exact .inl ⟨_, _, rfl, rfl, q.rest st (.int _)⟩
  · split at e
    · cases e
      rw [rd_str rx, rd_str ry]
      exact .inr (.inl ⟨_, _, rfl, rfl, szL (by assumption), q.rest st (.str _)⟩)
    · cases e
  · split at e
    · rename_i hl
      cases e
      obtain ⟨a, us, rfl, h1, h2⟩ := rd_lst st.fz rx
      obtain ⟨c, ws, rfl, h3, h4⟩ := rd_lst st.fz ry
      exact .inr (.inr (.inl ⟨a, c, us, ws, rfl, rfl, h1, h3, szL (by rw [h2.len, h4.len]; exact hl), fun p np => q.lst st np (h2.append h4)⟩))
    · cases e
  · split at e
    · rename_i hl
      cases e
      obtain ⟨a, us, rfl, h1, h1', h2⟩ := rd_tup st.fz rx
      obtain ⟨c, ws, rfl, h3, h3', h4⟩ := rd_tup st.fz ry
      refine .inr (.inr (.inr ⟨a, c, us, ws, rfl, rfl, h1, h3, szL (by rw [h2.len, h4.len]; exact hl), fun z => ?_, fun _ z => ?_, fun _ _ p np => q.tup st np (h2.append h4)⟩))
      · rw [(rep_nil h2).mp z, List.nil_append] at q
        exact q.rest st (.tup h3' h4)
      · rw [(rep_nil h4).mp z, List.append_nil] at q
        exact q.rest st (.tup h1' h2)
    · cases e
  · cases e
theorem oz_cat : OpR X (binaryOp .Add) (rZF X.kw bs catD) := opWk op_cat fun x y H Q h => by
  obtain ⟨σ, Hf, Γ, dx, dy, d, st, rx, ry, e, q⟩ := h
  unfold catD at e
  split at e
  · split at e
    · rename_i hl
      cases e
      obtain ⟨a, us, rfl, h1, h2⟩ := rd_lst st.fz rx
      obtain ⟨c, ws, rfl, h3, h4⟩ := rd_lst st.fz ry
      exact ⟨a, c, us, ws, rfl, rfl, h1, h3, szL (by rw [h2.len, h4.len]; exact hl), fun p np => q.lst st np (h2.append h4)⟩
    · cases e
  · cases e
theorem oz_int {f : Value → Value → Sem Value} {r : D → D → Option D} {C : Int → Int → Prop} {g : Int → Int → V} (h : OpR X f (rI C g)) (w : ∀ dx dy d, r dx dy = some d → ∃ i j, dx = .int i ∧ dy = .int j ∧ C i j ∧ ∀ H, Rep X.kw H (g i j) d) : OpR X f (rZ X.kw bs r) := opWk h fun x y H Q h => by
  obtain ⟨σ, Hf, Γ, dx, dy, d, st, rx, ry, e, q⟩ := h
  obtain ⟨i, j, rfl, rfl, c, hr⟩ := w _ _ _ e
  rw [rd_int rx, rd_int ry]
  exact ⟨i, j, rfl, rfl, c, q.rest st (hr _)⟩
theorem oz_int0 {f : Value → Value → Sem Value} {r : D → D → Option D} {g : Int → Int → V} (h : OpR X f (rI0 g)) (w : ∀ dx dy d, r dx dy = some d → ∃ i j, dx = .int i ∧ dy = .int j ∧ ∀ H, Rep X.kw H (g i j) d) : OpR X f (rZ X.kw bs r) := opWk h fun x y H Q h => by
  obtain ⟨σ, Hf, Γ, dx, dy, d, st, rx, ry, e, q⟩ := h
  obtain ⟨i, j, rfl, rfl, hr⟩ := w _ _ _ e
  rw [rd_int rx, rd_int ry]
  exact ⟨i, j, rfl, rfl, q.rest st (hr _)⟩
theorem oz_sub : OpR X (binaryOp .Sub) (rZ X.kw bs subD) := oz_int0 op_sub fun dx dy d e => by
  unfold subD at e
  split at e
  · cases e; exact ⟨_, _, rfl, rfl, fun _ => .int _⟩
  · cases e
theorem oz_lt : OpR X (compareOp .Lt) (rZ X.kw bs ltD) := oz_int0 op_lt fun dx dy d e => by
  unfold ltD at e
  split at e
  · cases e; exact ⟨_, _, rfl, rfl, fun _ => .bl _⟩
  · cases e
theorem oz_le : OpR X (compareOp .LtE) (rZ X.kw bs leD) := oz_int0 op_le fun dx dy d e => by
  unfold leD at e
  split at e
  · cases e; exact ⟨_, _, rfl, rfl, fun _ => .bl _⟩
  · cases e
theorem oz_gt : OpR X (compareOp .Gt) (rZ X.kw bs gtD) := oz_int0 op_gt fun dx dy d e => by
  unfold gtD at e
  split at e
  · cases e; exact ⟨_, _, rfl, rfl, fun _ => .bl _⟩
  · cases e
theorem oz_ge : OpR X (compareOp .GtE) (rZ X.kw bs geD) := oz_int0 op_ge fun dx dy d e => by
  unfold geD at e
  split at e
  · cases e; exact ⟨_, _, rfl, rfl, fun _ => .bl _⟩
  · cases e
theorem oz_div : OpR X (binaryOp .FloorDiv) (rZ X.kw bs divD) := oz_int op_fdiv fun dx dy d e => by
  unfold divD at e
  split at e
  · split at e
    · rename_i h; cases e; exact ⟨_, _, rfl, rfl, h, fun _ => .int _⟩
    · cases e
  · cases e
theorem oz_mod : OpR X (binaryOp .Mod) (rZ X.kw bs modD) := oz_int op_mod fun dx dy d e => by
  unfold modD at e
  split at e
  · split at e
    · rename_i h; cases e; exact ⟨_, _, rfl, rfl, h, fun _ => .int _⟩
    · cases e
  · cases e
theorem oz_pow : OpR X (binaryOp .Pow) (rZ X.kw bs powD) := oz_int op_pow fun dx dy d e => by
  unfold powD at e
  split at e
  · split at e
    · rename_i h
      cases e
      refine ⟨_, _, rfl, rfl, ⟨h.1, h.2.1, ?_⟩, fun _ => .int _⟩
      have := smI_ok h.2.2
      omega
    · cases e
  · cases e
theorem oz_neg : UnR X (unaryOp .USub) (rZ1 X.kw bs negD) := unWk un_neg fun x H Q h => by
  obtain ⟨σ, Hf, Γ, dx, d, st, rx, e, q⟩ := h
  unfold negD at e
  split at e
  · cases e
    rw [rd_int rx]
    exact ⟨_, rfl, q.rest st (.int _)⟩
  · cases e
theorem tuple_mulOne' (l : Addr) (items : Array Value) (n : Nat) (sl : Array (Option Value)) (dd : Option Addr) (u : Tok) :
    Meets (Builtin.«tuple.__mul__» ⟨[.ref l, .int 1 u], []⟩) (fun _ R s => s.heap.get? l = some { cls := .type "tuple", dict := dd, data := .seq items n, slots := sl } ∧ R (.ok (.ret (Value.ref l))) s) :=
  .of_wp fun prog w A R s h => by
    obtain ⟨hp, g, d, tk, os⟩ := s
    obtain ⟨hl, h⟩ := h
    have f1 := AutoSeq1.idx_int
    have c0 : (decide ((1 : Int) < -(2 ^ 63)) || decide ((1 : Int) ≥ 2 ^ 63)) = false := by decide
    have c1 : (items.isEmpty || (1 : Int) == 1) = true := by rw [show ((1 : Int) == 1) = true by decide, Bool.or_true]
    wp_walk using wpAny_loadPart' hl
    repeat (first
      | (refine wpAny_ite_false (decide_eq_false (by rw [c0]; exact Bool.false_ne_true)) ?_; wp_walk using wpAny_loadPart' hl)
      | (refine wpAny_ite_true (decide_eq_true c1) ?_; wp_walk using wpAny_loadPart' hl))
    exact ⟨_, rfl, h⟩
def rOne (K : KW) : R2 := fun x y H Q => ∃ l xs, x = .ref l ∧ y = .int 1 ∧ SqT K.f H l xs ∧ Q (.ref l) H
theorem op_one : OpR X (binaryOp .Mult) (rOne X.kw) := by
  intro pins s σ H x y v u Q I rx ry h
  obtain ⟨l, xs, rfl, rfl, hT, q⟩ := h
  cases rx
  obtain ⟨t, rfl⟩ := ry
  obtain ⟨its, r, ⟨⟨cls, dd, data, sl⟩, ho, hc, n, hd⟩, hs⟩ := I.tuple hT
  simp only at hc hd
  subst hc hd
  refine wpAny_binaryOp_repeat_ref (T := "tuple") (U := "int") (by decide) ⟨_, ho, rfl⟩ (fun s' => typeIs_int s' 1 t) noFill_tuple_mul F.fills_int_mul F.slot_int_rmul repeat_tuple F.slot_int_index.lookup
    (call_meets F.slot_int_rmul (typeIs_int s 1 t) F.entry_int_rmul (F.args_int_rmul_2 _ _) (int_rmul_tuple 1 t l its.toArray n dd sl)
      ⟨ho, rfl, ⟨_, ho, rfl⟩, call_meets F.slot_tuple_mul ⟨_, ho, rfl⟩ F.entry_tuple_mul (F.args_tuple_mul_2 _ _) (tuple_mulOne' l its.toArray n sl dd t) ⟨ho, ?_⟩⟩)
  exact ⟨.ref l, H, I, rfl, q⟩
theorem oz_mul : OpR X (binaryOp .Mult) (rZ X.kw bs mulD) := opWk (op_mul.or (op_rep.or (op_repT.or op_one))) fun x y H Q h => by
  obtain ⟨σ, Hf, Γ, dx, dy, d, st, rx, ry, e, q⟩ := h
  unfold mulD at e
  split at e
  · split at e
    · rename_i hs
      cases e
      rw [rd_int rx, rd_int ry]
      refine .inl ⟨_, _, rfl, rfl, ?_, q.rest st (.int _)⟩
      rw [Bool.or_eq_true] at hs
      exact hs.imp smI_ok smI_ok
    · cases e
  · split at e
    · rename_i hk
      cases e
      obtain ⟨a, us, rfl, h1, h2⟩ := rd_lst st.fz rx
      rw [rd_int ry]
      exact .inr (.inl ⟨a, _, us, rfl, rfl, h1, by omega, by omega, szL (by rw [h2.len]; exact hk.2.1), fun p np => q.lst st np (h2.rep _)⟩)
    · cases e
  · split at e
    · rename_i k hk
      cases e
      obtain ⟨a, us, rfl, h1, h1', h2⟩ := rd_tup st.fz rx
      rw [rd_int ry]
      by_cases h1k : k = 1
      · subst h1k
        refine .inr (.inr (.inr ⟨a, us, rfl, rfl, h1, ?_⟩))
        have this : ∀ l : List D, (List.replicate (Int.toNat 1) l).flatten = l := fun l => by
          show (List.replicate 1 l).flatten = l
          rw [List.replicate_succ, List.replicate_zero, List.flatten_cons, List.flatten_nil, List.append_nil]
        rw [this] at q
        exact q.rest st (.tup h1' h2)
      · exact .inr (.inr (.inl ⟨a, k, us, rfl, rfl, h1, fun z => hk.1 ((rep_nil h2).mp z), by omega, hk.2.2.1, by rw [h2.len]; exact hk.2.2.2, fun p np => q.tup st np (h2.rep _)⟩))
    · cases e
  · cases e
theorem oz_rep : OpR X (binaryOp .Mult) (rZF X.kw bs repD) := opWk op_rep fun x y H Q h => by
  obtain ⟨σ, Hf, Γ, dx, dy, d, st, rx, ry, e, q⟩ := h
  unfold repD at e
  split at e
  · split at e
    · rename_i hk
      cases e
      obtain ⟨a, us, rfl, h1, h2⟩ := rd_lst st.fz rx
      rw [rd_int ry]
      exact ⟨a, _, us, rfl, rfl, h1, by omega, by omega, szL (by rw [h2.len]; exact hk.2.1), fun p np => q.lst st np (h2.rep _)⟩
    · cases e
  · cases e
end
/-! ### equality, membership -/
mutual
def toPy : D → PyData
  | .non => .none | .bl b => .bool b | .int i => .int i | .str s => .str s
  | .tup ds => .tuple (toPys ds) | .lst ds => .list (toPys ds)
  | .ty _ => .dict [] | .ob _ => .dict [] | .scr _ => .dict [] | .dct _ => .dict [] | .dcn _ => .dict []
def toPys : List D → List PyData
  | [] => []
  | d :: ds => toPy d :: toPys ds
end
theorem toPys_map : ∀ ds : List D, toPys ds = ds.map toPy
  | [] => by rw [toPys]; rfl
  | d :: ds => by rw [toPys, toPys_map ds]; rfl
def okE (d : D) : Bool := (toPy d).plain && decide ((toPy d).depth ≤ 60)
def eqB (d e : D) : Bool := PyData.eqv (toPy d) (toPy e)
def eqD (d e : D) : Option D := if okE d && okE e then some (.bl (eqB d e)) else none
def neD (d e : D) : Option D := if okE d && okE e then some (.bl (!eqB d e)) else none
def inD (d : D) : D → Option D
  | .lst ds => if okE d && okE (.lst ds) then some (.bl (ds.any fun z => eqB z d)) else none
  | .tup ds => if okE d && okE (.tup ds) then some (.bl (ds.any fun z => eqB z d)) else none
  | _ => none
def niD (d : D) : D → Option D
  | .lst ds => if okE d && okE (.lst ds) then some (.bl (!ds.any fun z => eqB z d)) else none
  | .tup ds => if okE d && okE (.tup ds) then some (.bl (!ds.any fun z => eqB z d)) else none
  | _ => none
section
variable {X : Cx} {bs : Bs} {K : KW} {Hf H : Hp}
mutual
theorem Rep.dp (z : Same Hf H) : ∀ {v : V} {d : D}, Rep K Hf v d → (toPy d).plain = true → Dp K.f H v (toPy d)
  | _, _, .non, _ => by rw [toPy]; exact .non
  | _, _, .bl b, _ => by rw [toPy]; exact .bl b
  | _, _, .int i, _ => by rw [toPy]; exact .int i
  | _, _, .str x, _ => by rw [toPy]; exact .str x
  | _, _, .ty n, h => by rw [toPy] at h; cases h
  | _, _, .ob a, h => by rw [toPy] at h; cases h
  | _, _, .scr _, h => by rw [toPy] at h; cases h
  | _, _, .dct _ _, h => by rw [toPy] at h; cases h
  | _, _, .tup e es, h => by
    rw [toPy] at h ⊢
    rw [PyData.plain] at h
    exact .tup (sqT_mono z e) (RepAll.dp z es h)
  | _, _, .lst e es, h => by
    rw [toPy] at h ⊢
    rw [PyData.plain] at h
    exact .lst (SqL.of (z _ _ e)) (RepAll.dp z es h)
theorem RepAll.dp (z : Same Hf H) : ∀ {vs : List V} {ds : List D}, RepAll K Hf vs ds → PyData.plainAll (toPys ds) = true → DpAll K.f H vs (toPys ds)
  | _, _, .nil, _ => by rw [toPys]; exact .nil
  | _, _, .cons e es, h => by
    rw [toPys] at h ⊢
    rw [PyData.plainAll, Bool.and_eq_true] at h
    exact .cons (Rep.dp z e h.1) (RepAll.dp z es h.2)
end
theorem rd_dp {v : V} {d : D} (z : Same Hf H) (h : RdH K Hf H v d) (p : (toPy d).plain = true) : Dp K.f H v (toPy d) := by
  rcases h with h | ⟨a, rfl, c⟩
  · exact h.dp z p
  · cases d with
    | lst ds =>
      obtain ⟨xs, e, r⟩ := c
      rw [toPy] at p ⊢
      rw [PyData.plain] at p
      exact .lst (SqL.of e) (r.dp z p)
    | dct ds => rw [toPy] at p; cases p
    | dcn ds => rw [toPy] at p; cases p
    | _ => exact c.elim
def rEqP (K : KW) : R2 := fun x y H Q => ∃ d e, Dp K.f H x d ∧ Dp K.f H y e ∧ d.plain = true ∧ e.plain = true ∧ d.depth ≤ 60 ∧ Q (.bl (PyData.eqv d e)) H
def rNeP (K : KW) : R2 := fun x y H Q => ∃ d e, Dp K.f H x d ∧ Dp K.f H y e ∧ d.plain = true ∧ e.plain = true ∧ d.depth ≤ 60 ∧ Q (.bl (!PyData.eqv d e)) H
theorem op_eqP (hu : X.A.units + 64 < cLine) : OpR X (compareOp .Eq) (rEqP X.kw) := by
  intro pins s σ H x y v u Q I rx ry h
  obtain ⟨d, e, hd, he, sd, se, dd, q⟩ := h
  obtain ⟨as, r1⟩ := Dp.reads I d x v hd rx
  obtain ⟨bs, r2⟩ := Dp.reads I e y u he ry
  exact SeqAt.eq_plain r1 r2 sd se (by have := Nat.min_le_left d.depth e.depth; omega) ⟨.bl _, H, I, rfl, q⟩
theorem op_neP (hu : X.A.units + 64 < cLine) : OpR X (compareOp .NotEq) (rNeP X.kw) := by
  intro pins s σ H x y v u Q I rx ry h
  obtain ⟨d, e, hd, he, sd, se, dd, q⟩ := h
  obtain ⟨as, r1⟩ := Dp.reads I d x v hd rx
  obtain ⟨bs, r2⟩ := Dp.reads I e y u he ry
  exact SeqAt.ne_plain r1 r2 sd se (by have := Nat.min_le_left d.depth e.depth; omega) ⟨.bl _, H, I, rfl, q⟩
theorem okE_of {d : D} (h : okE d = true) : (toPy d).plain = true ∧ (toPy d).depth ≤ 60 := by
  unfold okE at h
  rw [Bool.and_eq_true, decide_eq_true_eq] at h
  exact h
theorem oz_eq (hu : X.A.units + 64 < cLine) : OpR X (compareOp .Eq) (rZ X.kw bs eqD) := opWk (op_eqP hu) fun x y H Q h => by
  obtain ⟨σ, Hf, Γ, dx, dy, d, st, rx, ry, e, q⟩ := h
  unfold eqD at e
  split at e
  · rename_i hk
    cases e
    rw [Bool.and_eq_true] at hk
    exact ⟨_, _, rd_dp st.fz rx (okE_of hk.1).1, rd_dp st.fz ry (okE_of hk.2).1, (okE_of hk.1).1, (okE_of hk.2).1, (okE_of hk.1).2, q.rest st (.bl _)⟩
  · cases e
theorem oz_ne (hu : X.A.units + 64 < cLine) : OpR X (compareOp .NotEq) (rZ X.kw bs neD) := opWk (op_neP hu) fun x y H Q h => by
  obtain ⟨σ, Hf, Γ, dx, dy, d, st, rx, ry, e, q⟩ := h
  unfold neD at e
  split at e
  · rename_i hk
    cases e
    rw [Bool.and_eq_true] at hk
    exact ⟨_, _, rd_dp st.fz rx (okE_of hk.1).1, rd_dp st.fz ry (okE_of hk.2).1, (okE_of hk.1).1, (okE_of hk.2).1, (okE_of hk.1).2, q.rest st (.bl _)⟩
  · cases e
def rInP (K : KW) (neg : Bool) : R2 := fun x y H Q => ∃ d ds, Dp K.f H x d ∧ (Dp K.f H y (.list ds) ∨ Dp K.f H y (.tuple ds)) ∧ d.plain = true ∧ PyData.plainAll ds = true ∧ d.depth ≤ 60 ∧ Q (.bl (if neg then !ds.any fun z => PyData.eqv z d else ds.any fun z => PyData.eqv z d)) H
theorem op_inP (hu : X.A.units + 64 < cLine) : OpR X (compareOp .In) (rInP X.kw false) := by
  intro pins s σ H x y v u Q I rx ry h
  obtain ⟨d, ds, hd, he, sd, se, dd, q⟩ := h
  obtain ⟨as, r1⟩ := Dp.reads I d x v hd rx
  have hm := Nat.min_le_right (PyData.depthAll ds) d.depth
  rcases he with he | he
  · obtain ⟨bs, r2⟩ := Dp.reads I _ y u he ry
    exact SeqAt.in_list_data r2 r1 se sd (by omega) ⟨.bl _, H, I, rfl, q⟩
  · obtain ⟨bs, r2⟩ := Dp.reads I _ y u he ry
    exact SeqAt.in_tuple_data r2 r1 se sd (by omega) ⟨.bl _, H, I, rfl, q⟩
theorem op_niP (hu : X.A.units + 64 < cLine) : OpR X (compareOp .NotIn) (rInP X.kw true) := by
  intro pins s σ H x y v u Q I rx ry h
  obtain ⟨d, ds, hd, he, sd, se, dd, q⟩ := h
  obtain ⟨as, r1⟩ := Dp.reads I d x v hd rx
  have hm := Nat.min_le_right (PyData.depthAll ds) d.depth
  rcases he with he | he
  · obtain ⟨bs, r2⟩ := Dp.reads I _ y u he ry
    exact SeqAt.notIn_list_data r2 r1 se sd (by omega) ⟨.bl _, H, I, rfl, q⟩
  · obtain ⟨bs, r2⟩ := Dp.reads I _ y u he ry
    exact SeqAt.notIn_tuple_data r2 r1 se sd (by omega) ⟨.bl _, H, I, rfl, q⟩
theorem any_toPys (d : D) (ds : List D) : ((toPys ds).any fun z => PyData.eqv z (toPy d)) = ds.any fun z => eqB z d := by
  rw [toPys_map, List.any_map]
  rfl
theorem in_shape {x y : V} {dx dy : D} (z : Same Hf H) (rx : RdH K Hf H x dx) (ry : RdH K Hf H y dy) {ds : List D} (hd : dy = .lst ds ∨ dy = .tup ds) (h1 : okE dx = true) (h2 : okE dy = true) :
    Dp K.f H x (toPy dx) ∧ (Dp K.f H y (.list (toPys ds)) ∨ Dp K.f H y (.tuple (toPys ds))) ∧ (toPy dx).plain = true ∧ PyData.plainAll (toPys ds) = true ∧ (toPy dx).depth ≤ 60 := by
  have p2 := (okE_of h2).1
  have r := rd_dp z ry p2
  refine ⟨rd_dp z rx (okE_of h1).1, ?_, (okE_of h1).1, ?_, (okE_of h1).2⟩
  · rcases hd with rfl | rfl
    · rw [toPy] at r; exact .inl r
    · rw [toPy] at r; exact .inr r
  · rcases hd with rfl | rfl <;> (rw [toPy, PyData.plain] at p2; exact p2)
theorem oz_in (hu : X.A.units + 64 < cLine) : OpR X (compareOp .In) (rZ X.kw bs inD) := opWk (op_inP hu) fun x y H Q h => by
  obtain ⟨σ, Hf, Γ, dx, dy, d, st, rx, ry, e, q⟩ := h
  unfold inD at e
  split at e
  all_goals first
    | cases e
    | (split at e
       · rename_i ds hk
         cases e
         rw [Bool.and_eq_true] at hk
         obtain ⟨h1, h2, h3, h4, h5⟩ := in_shape st.fz rx ry (ds := ds) (by first | exact .inl rfl | exact .inr rfl) hk.1 hk.2
         refine ⟨_, _, h1, h2, h3, h4, h5, ?_⟩
         rw [any_toPys]
         exact q.rest st (.bl _)
       · cases e)
theorem oz_ni (hu : X.A.units + 64 < cLine) : OpR X (compareOp .NotIn) (rZ X.kw bs niD) := opWk (op_niP hu) fun x y H Q h => by
  obtain ⟨σ, Hf, Γ, dx, dy, d, st, rx, ry, e, q⟩ := h
  unfold niD at e
  split at e
  all_goals first
    | cases e
    | (split at e
       · rename_i ds hk
         cases e
         rw [Bool.and_eq_true] at hk
         obtain ⟨h1, h2, h3, h4, h5⟩ := in_shape st.fz rx ry (ds := ds) (by first | exact .inl rfl | exact .inr rfl) hk.1 hk.2
         refine ⟨_, _, h1, h2, h3, h4, h5, ?_⟩
         rw [any_toPys]
         exact q.rest st (.bl _)
       · cases e)
end
end Zd

set_option maxHeartbeats 4000000
namespace Zd
open PySem PySem.Spec PyProof.Rows L2 Pd
/-! ### subscripts, slices -/
def ixD : D → D → Option D
  | .lst ds, .int i => atI ds i
  | .tup ds, .int i => atI ds i
  | .scr ns, .int i => (atI ns i).map D.int
  | .str z, .int i => if z.length ≤ 10000000 then (atI z.cps.toList i).map fun c => .str ⟨#[c]⟩ else none
  | _, _ => none
def cutL {α : Type} (xs : List α) (lo hi : Option Int) : List α := (xs.drop (HT.sIx xs.length 0 lo)).take (HT.sIx xs.length xs.length hi - HT.sIx xs.length 0 lo)
def slD (lo hi : Option Int) : D → Option D
  | .lst ds => some (.lst (cutL ds lo hi))
  | .tup ds => some (.tup (cutL ds lo hi))
  | _ => none
def slL (lo hi : Option Int) : D → Option D
  | .lst ds => some (.lst (cutL ds lo hi))
  | _ => none
def toI : D → Option Int
  | .int i => some i
  | _ => none
theorem toI_some {d : D} {i : Int} (e : toI d = some i) : d = .int i := by
  cases d with
  | int j => exact congrArg D.int (Option.some.inj e)
  | _ => cases e
abbrev Px := Gm → Option (Option Int × Gm)
def pN : Px := fun Γ => some (none, Γ)
def pS (f : Ox) : Px := fun Γ => (f Γ).bind fun p => (p.1.get p.2).bind fun d => (toI d).map fun i => (some i, p.2)
def eSl (r : Option Int → Option Int → D → Option D) (f : Ox) (lo hi : Px) : Ex := fun Γ => (f Γ).bind fun p => (lo p.2).bind fun q => (hi q.2).bind fun s => (p.1.get s.2).bind fun x => (r q.1 s.1 x).map fun d => (d, s.2)
def tPx (K : KW) (b : Bs) (f : Px) : TO := fun σ H Q => ∃ Hf Γ o Γ', StR K b Hf H σ Γ ∧ f Γ = some (o, Γ') ∧ ∀ Hf' H', StR K b Hf' H' σ Γ' → Ext σ Γ Γ' Hf H Hf' H' → Q o H'
theorem atI_rep {K : KW} {H : Hp} {xs : List V} {ds : List D} {i : Int} {d : D} (r : RepAll K H xs ds) (e : atI ds i = some d) : ∃ v, atI xs i = some v ∧ Rep K H v d := by
  unfold atI at e ⊢
  rw [r.len]
  rw [Option.bind_eq_some_iff] at e
  obtain ⟨j, e1, e2⟩ := e
  obtain ⟨v, h1, h2⟩ := r.getD e2
  exact ⟨v, by rw [e1]; exact h1, h2⟩
theorem cut_rep {K : KW} {H : Hp} {xs : List V} {ds : List D} {lo hi : Option Int} (r : RepAll K H xs ds) : RepAll K H (cutV xs lo hi) (cutL ds lo hi) := by
  unfold cutV cutL
  rw [r.len]
  exact (r.drop _).take _
theorem cut_whole {α : Type} {xs : List α} {lo hi : Option Int} (h : HT.sIx xs.length 0 lo = 0 ∧ HT.sIx xs.length xs.length hi = xs.length) : cutL xs lo hi = xs := by
  unfold cutL
  rw [h.1, h.2, List.drop_zero, Nat.sub_zero, List.take_length]
section
variable {X : Cx} {K : KW} {bs : Bs} {a b c e o : Expr} {es rest : List Expr} {pos p2 : Pos} {f g h : Ex} {fo go ho : Ox} {fs : Exs} {os : Oxs} {x : Str} {i : Nat} {t u : Tx} {pl ph : Px} {lo hi : Option Expr}
theorem iz_ix : IxR X (rZ X.kw bs ixD) := ixWk ix_seq fun x y H Q h => by
  obtain ⟨σ, Hf, Γ, dx, dy, d, st, rx, ry, e, q⟩ := h
  unfold ixD at e
  split at e
  · obtain ⟨a, us, rfl, h1, h2⟩ := rd_lst st.fz rx
    obtain ⟨v, e1, e2⟩ := atI_rep h2 e
    exact .inl ⟨a, us, _, v, rfl, rd_int ry, SqL.of h1, e1, q.rest st e2⟩
  · obtain ⟨a, us, rfl, h1, _, h2⟩ := rd_tup st.fz rx
    obtain ⟨v, e1, e2⟩ := atI_rep h2 e
    exact .inr (.inl ⟨a, us, _, v, rfl, rd_int ry, h1, e1, q.rest st e2⟩)
  · obtain ⟨a, rfl, h1⟩ := rd_scr st.fz rx
    rw [Option.map_eq_some_iff] at e
    obtain ⟨n, e1, rfl⟩ := e
    refine .inl ⟨a, _, _, .int n, rfl, rd_int ry, h1, ?_, q.rest st (.int n)⟩
    unfold atI at e1 ⊢
    rw [Option.bind_eq_some_iff] at e1
    obtain ⟨j, e1, e2⟩ := e1
    rw [List.length_map, e1]
    show (List.map V.int _)[j]? = some (V.int n)
    rw [List.getElem?_map, e2]
    rfl
  · split at e
    · rename_i hz
      rw [Option.map_eq_some_iff] at e
      obtain ⟨n, e1, rfl⟩ := e
      exact .inr (.inr ⟨_, _, n, rd_str rx, rd_int ry, szL hz, e1, q.rest st (.str _)⟩)
    · cases e
  · cases e
theorem p_none : PO X none (tPx K bs pN) := ⟨fun pins s σ H Q I h => po_none.run pins s σ H Q I (by
  obtain ⟨Hf, Γ, o, Γ', st, e, q⟩ := h
  have e : some (none, Γ) = some (o, Γ') := e
  cases e
  exact q Hf H st Ext.refl)⟩
theorem p_some (h : PE X e (tO K bs fo)) : PO X (some e) (tPx K bs (pS fo)) := ⟨fun pins s σ H Q I hq => (po_some h).run pins s σ H Q I (by
  obtain ⟨Hf, Γ, o, Γ', st, e, q⟩ := hq
  unfold pS at e
  rw [Option.bind_eq_some_iff] at e
  obtain ⟨⟨o1, Γ1⟩, e1, e⟩ := e
  rw [Option.bind_eq_some_iff] at e
  obtain ⟨d, e3, e⟩ := e
  rw [Option.map_eq_some_iff] at e
  obtain ⟨i, e5, e⟩ := e
  cases e
  have := toI_some e5
  subst this
  exact ⟨Hf, Γ, o1, Γ1, st, e1, fun v Hf1 H1 s1 x1 r1 => ⟨i, rd_int (ovRd s1 r1 e3), q _ _ s1 x1⟩⟩)⟩
def rZS (K : KW) (b : Bs) (r : Option Int → Option Int → D → Option D) : V → Option Int → Option Int → Hp → VK → Prop := fun x lo hi H Q => ∃ σ Hf Γ dx d, StR K b Hf H σ Γ ∧ RdH K Hf H x dx ∧ r lo hi dx = some d ∧ Out K b σ Γ Hf H d Q
def rZSF (K : KW) (b : Bs) (r : Option Int → Option Int → D → Option D) : V → Option Int → Option Int → Hp → VK → Prop := fun x lo hi H Q => ∃ σ Hf Γ dx d, StR K b Hf H σ Γ ∧ RdH K Hf H x dx ∧ r lo hi dx = some d ∧ OutF K b σ Γ Hf H d Q
theorem slWk {r r' : V → Option Int → Option Int → Hp → VK → Prop} (h : SlR X r) (w : ∀ x lo hi H Q, r' x lo hi H Q → r x lo hi H Q) : SlR X r' := fun pins s σ H x v vl vu lo hi sl Q I rx hs pl pu q => h pins s σ H x v vl vu lo hi sl Q I rx hs pl pu (w x lo hi H Q q)
theorem sz_sl : SlR X (rZS X.kw bs slD) := slWk (sl_list.or sl_tupA) fun x lo hi H Q h => by
  obtain ⟨σ, Hf, Γ, dx, d, st, rx, e, q⟩ := h
  unfold slD at e
  split at e
  · cases e
    obtain ⟨a, us, rfl, h1, h2⟩ := rd_lst st.fz rx
    exact .inl ⟨a, us, rfl, SqL.of h1, fun p np => q.lst st np (cut_rep h2)⟩
  · cases e
    obtain ⟨a, us, rfl, h1, h1', h2⟩ := rd_tup st.fz rx
    refine .inr ⟨a, us, rfl, h1, fun w => ?_, fun _ p np => q.tup st np (cut_rep h2)⟩
    rw [h2.len] at w
    rw [cut_whole w] at q
    exact q.rest st (.tup h1' h2)
  · cases e
theorem sz_slL : SlR X (rZSF X.kw bs slL) := slWk sl_list fun x lo hi H Q h => by
  obtain ⟨σ, Hf, Γ, dx, d, st, rx, e, q⟩ := h
  unfold slL at e
  split at e
  · cases e
    obtain ⟨a, us, rfl, h1, h2⟩ := rd_lst st.fz rx
    exact ⟨a, us, rfl, SqL.of h1, fun p np => q.lst st np (cut_rep h2)⟩
  · cases e
theorem z_sl {r : Option Int → Option Int → D → Option D} (hr : SlR X (rZS K bs r)) (ha : PE X a (tO K bs fo)) (hl : PO X lo (tPx K bs pl)) (hu : PO X hi (tPx K bs ph)) : PE X (.Subscript a (.Slice lo hi none p2) pos) (tZ K bs (eSl r fo pl ph)) := (pe_slice hr ha hl hu).wk fun σ H Q hq => by
  obtain ⟨Hf, Γ, d, Γ', st, e, q⟩ := hq
  unfold eSl at e
  rw [Option.bind_eq_some_iff] at e
  obtain ⟨⟨o1, Γ1⟩, e1, e⟩ := e
  rw [Option.bind_eq_some_iff] at e
  obtain ⟨⟨l1, Γ2⟩, e2, e⟩ := e
  rw [Option.bind_eq_some_iff] at e
  obtain ⟨⟨h1, Γ3⟩, e3, e⟩ := e
  rw [Option.bind_eq_some_iff] at e
  obtain ⟨dx, e4, e⟩ := e
  rw [Option.map_eq_some_iff] at e
  obtain ⟨d', e5, e⟩ := e
  cases e
  exact ⟨Hf, Γ, o1, Γ1, st, e1, fun v Hf1 H1 s1 x1 r1 => ⟨Hf1, Γ1, l1, Γ2, s1, e2, fun Hf2 H2 s2 x2 => ⟨Hf2, Γ2, h1, Γ3, s2, e3, fun Hf3 H3 s3 x3 => ⟨σ, Hf3, Γ3, dx, d, s3, ovRd s3 (r1.mono (x2.f.trans x3.f)) e4, e5, fun w Hf4 H4 s4 x4 r4 => q w Hf4 H4 s4 (((x1.trans x2).trans x3).trans x4) r4⟩⟩⟩⟩
theorem none_back {σ : L2.St} {Γ Γ' : Gm} {Hf H Hf' H' : Hp} {p : Addr} (x : Ext σ Γ Γ' Hf H Hf' H') (n : H' p = none) : H p = none := by
  cases z : H p with
  | none => rfl
  | some u => obtain ⟨o', w⟩ := x.dm p u z; rw [n] at w; cases w
theorem f_sl {r : Option Int → Option Int → D → Option D} (hr : SlR X (rZSF K bs r)) (ha : PE X a (tO K bs fo)) (hl : PO X lo (tPx K bs pl)) (hu : PO X hi (tPx K bs ph)) : PE X (.Subscript a (.Slice lo hi none p2) pos) (tF K bs (eSl r fo pl ph)) := (pe_slice hr ha hl hu).wk fun σ H Q hq => by
  obtain ⟨Hf, Γ, d, Γ', st, e, q⟩ := hq
  unfold eSl at e
  rw [Option.bind_eq_some_iff] at e
  obtain ⟨⟨o1, Γ1⟩, e1, e⟩ := e
  rw [Option.bind_eq_some_iff] at e
  obtain ⟨⟨l1, Γ2⟩, e2, e⟩ := e
  rw [Option.bind_eq_some_iff] at e
  obtain ⟨⟨h1, Γ3⟩, e3, e⟩ := e
  rw [Option.bind_eq_some_iff] at e
  obtain ⟨dx, e4, e⟩ := e
  rw [Option.map_eq_some_iff] at e
  obtain ⟨d', e5, e⟩ := e
  cases e
  exact ⟨Hf, Γ, o1, Γ1, st, e1, fun v Hf1 H1 s1 x1 r1 => ⟨Hf1, Γ1, l1, Γ2, s1, e2, fun Hf2 H2 s2 x2 => ⟨Hf2, Γ2, h1, Γ3, s2, e3, fun Hf3 H3 s3 x3 => ⟨σ, Hf3, Γ3, dx, d, s3, ovRd s3 (r1.mono (x2.f.trans x3.f)) e4, e5, fun w Hf4 H4 s4 x4 n1 n2 r4 => q w Hf4 H4 s4 (((x1.trans x2).trans x3).trans x4) (none_back ((x1.trans x2).trans x3) n1) n2 r4⟩⟩⟩⟩
/-- a binary operation that makes a new list -/
theorem f_op {op : Operator} {r : D → D → Option D} (ho : OpR X (binaryOp op) (rZF K bs r)) (ha : PE X a (tO K bs fo)) (hb : PE X b (tO K bs go)) : PE X (.BinOp a op b pos) (tF K bs (eOp2 r fo go)) := (pe_op ho ha hb).wk fun σ H Q hq => by
  obtain ⟨Hf, Γ, d, Γ', st, e, q⟩ := hq
  unfold eOp2 at e
  rw [Option.bind_eq_some_iff] at e
  obtain ⟨⟨o1, Γ1⟩, e1, e⟩ := e
  rw [Option.bind_eq_some_iff] at e
  obtain ⟨⟨o2, Γ2⟩, e2, e⟩ := e
  rw [Option.bind_eq_some_iff] at e
  obtain ⟨dx, e3, e⟩ := e
  rw [Option.bind_eq_some_iff] at e
  obtain ⟨dy, e4, e⟩ := e
  rw [Option.map_eq_some_iff] at e
  obtain ⟨d', e5, e⟩ := e
  cases e
  exact ⟨Hf, Γ, o1, Γ1, st, e1, fun v Hf1 H1 s1 x1 r1 => ⟨Hf1, Γ1, o2, Γ2, s1, e2, fun u Hf2 H2 s2 x2 r2 => ⟨σ, Hf2, Γ2, dx, dy, d, s2, ovRd s2 (r1.mono x2.f) e3, ovRd s2 r2 e4, e5, fun w Hf3 H3 s3 x3 n1 n2 r3 => q w Hf3 H3 s3 ((x1.trans x2).trans x3) (none_back (x1.trans x2) n1) n2 r3⟩⟩⟩
end
/-! ### built-in functions -/
def lenD : List D → Option D
  | [.lst ds] => some (.int ds.length)
  | [.tup ds] => some (.int ds.length)
  | [.scr ns] => some (.int ns.length)
  | [.str z] => if z.length ≤ 10000000 then some (.int z.length) else none
  | _ => none
inductive Cl where
  | int | bool | str | tuple | list | dict
def Cl.nm : Cl → String
  | .int => "int" | .bool => "bool" | .str => "str" | .tuple => "tuple" | .list => "list" | .dict => "dict"
def tyD : D → Option String
  | .non => some "NoneType" | .bl _ => some "bool" | .int _ => some "int" | .str _ => some "str" | .tup _ => some "tuple" | .lst _ => some "list" | .dct _ => some "dict" | _ => none
def isK : Cl → D → Option Bool
  | .int, .int _ => some true
  | .int, .bl _ => some true
  | .bool, .bl _ => some true
  | .str, .str _ => some true
  | .tuple, .tup _ => some true
  | .list, .lst _ => some true
  | .dict, .dct _ => some true
  | _, .ty _ => none
  | _, .ob _ => none
  | _, .scr _ => none
  | _, .dcn _ => none
  | _, _ => some false
def eIsi (k : Cl) (f : Ox) : Ex := fun Γ => (f Γ).bind fun p => (p.1.get p.2).bind fun d => (isK k d).map fun c => (.bl c, p.2)
def isND : D → D → Option D
  | .non, .non => some (.bl true)
  | .ob _, _ => none
  | .ty _, _ => none
  | _, .non => some (.bl false)
  | _, _ => none
def isnND : D → D → Option D
  | .non, .non => some (.bl false)
  | .ob _, _ => none
  | .ty _, _ => none
  | _, .non => some (.bl true)
  | _, _ => none
def intD : List D → Option D
  | [.int i] => some (.int i)
  | [.bl k] => some (.int (if k then 1 else 0))
  | _ => none
def absD : List D → Option D
  | [.int i] => some (.int (if i < 0 then -i else i))
  | _ => none
def intsOf : List D → Option (List Int)
  | [] => some []
  | .int i :: r => (intsOf r).map fun ns => i :: ns
  | _ :: _ => none
def blsOf : List D → Option (List Bool)
  | [] => some []
  | .bl i :: r => (blsOf r).map fun ns => i :: ns
  | _ :: _ => none
def maxI : Int → List Int → Int
  | m, [] => m
  | m, n :: ns => maxI (if n > m then n else m) ns
def minI : Int → List Int → Int
  | m, [] => m
  | m, n :: ns => minI (if n < m then n else m) ns
def maxD : List D → Option D
  | [.lst ds] => (intsOf ds).bind fun ns => match ns with
    | [] => none
    | n :: ns => some (.int (maxI n ns))
  | [.int i, .int j] => some (.int (if j > i then j else i))
  | _ => none
def minD : List D → Option D
  | [.lst ds] => (intsOf ds).bind fun ns => match ns with
    | [] => none
    | n :: ns => some (.int (minI n ns))
  | [.int i, .int j] => some (.int (if j < i then j else i))
  | _ => none
def sumD : List D → Option D
  | [.lst ds] => (intsOf ds).map fun ns => .int ns.sum
  | _ => none
def allD : List D → Option D
  | [.lst ds] => (blsOf ds).map fun ns => .bl (ns.all id)
  | _ => none
def anyD : List D → Option D
  | [.lst ds] => (blsOf ds).map fun ns => .bl (ns.any id)
  | _ => none
def tupleD : List D → Option D
  | [.lst ds] => some (.tup ds)
  | [.tup ds] => some (.tup ds)
  | _ => none
def listD : List D → Option D
  | [.lst ds] => some (.lst ds)
  | [.tup ds] => some (.lst ds)
  | _ => none
def insI (n : Int) : List Int → List Int
  | [] => [n]
  | m :: ms => if n ≤ m then n :: m :: ms else m :: insI n ms
def sortI : List Int → List Int
  | [] => []
  | n :: ns => insI n (sortI ns)
def sortedD : List D → Option D
  | [.lst ds] => (intsOf ds).map fun ns => .lst ((sortI ns).map D.int)
  | _ => none
theorem intsOf_some : ∀ {ds : List D} {ns : List Int}, intsOf ds = some ns → ds = ns.map D.int
  | [], ns, e => by
    have : [] = ns := Option.some.inj e
    subst this
    rfl
  | d :: ds, ns, e => by
    cases d with
    | int i =>
      rw [intsOf, Option.map_eq_some_iff] at e
      obtain ⟨ms, e1, rfl⟩ := e
      rw [intsOf_some e1]
      rfl
    | _ => cases e
theorem intsOf_map : ∀ ns : List Int, intsOf (ns.map D.int) = some ns
  | [] => rfl
  | n :: ns => by rw [List.map_cons, intsOf, intsOf_map ns]; rfl
theorem blsOf_some : ∀ {ds : List D} {ns : List Bool}, blsOf ds = some ns → ds = ns.map D.bl
  | [], ns, e => by
    have : [] = ns := Option.some.inj e
    subst this
    rfl
  | d :: ds, ns, e => by
    cases d with
    | bl i =>
      rw [blsOf, Option.map_eq_some_iff] at e
      obtain ⟨ms, e1, rfl⟩ := e
      rw [blsOf_some e1]
      rfl
    | _ => cases e
theorem blsOf_map : ∀ ns : List Bool, blsOf (ns.map D.bl) = some ns
  | [] => rfl
  | n :: ns => by rw [List.map_cons, blsOf, blsOf_map ns]; rfl
theorem repBls {K : KW} {H : Hp} : ∀ {xs : List V} {ns : List Bool}, RepAll K H xs (ns.map D.bl) → xs = ns.map V.bl
  | [], [], _ => rfl
  | x :: xs, n :: ns, .cons h t => by
    rw [repBls t, List.map_cons]
    cases h
    rfl
theorem maxI_mem : ∀ (ns : List Int) (m : Int), maxI m ns ∈ m :: ns ∧ ∀ y ∈ m :: ns, y ≤ maxI m ns
  | [], m => ⟨List.mem_singleton.mpr rfl, fun y h => by rw [List.mem_singleton.mp h]; exact Int.le_refl _⟩
  | n :: ns, m => by
    obtain ⟨h1, h2⟩ := maxI_mem ns (if n > m then n else m)
    show maxI (if n > m then n else m) ns ∈ _ ∧ ∀ y ∈ _, y ≤ maxI (if n > m then n else m) ns
    have h3 := h2 _ List.mem_cons_self
    constructor
    · rcases List.mem_cons.mp h1 with h | h
      · rw [h]
        split
        · exact List.mem_cons_of_mem _ List.mem_cons_self
        · exact List.mem_cons_self
      · exact List.mem_cons_of_mem _ (List.mem_cons_of_mem _ h)
    · intro y hy
      rcases List.mem_cons.mp hy with h | h
      · subst h
        split at h3 <;> (split <;> omega)
      · rcases List.mem_cons.mp h with h | h
        · subst h
          split at h3 <;> (split <;> omega)
        · exact h2 y (List.mem_cons_of_mem _ h)
theorem minI_mem : ∀ (ns : List Int) (m : Int), minI m ns ∈ m :: ns ∧ ∀ y ∈ m :: ns, minI m ns ≤ y
  | [], m => ⟨List.mem_singleton.mpr rfl, fun y h => by rw [List.mem_singleton.mp h]; exact Int.le_refl _⟩
  | n :: ns, m => by
    obtain ⟨h1, h2⟩ := minI_mem ns (if n < m then n else m)
    show minI (if n < m then n else m) ns ∈ _ ∧ ∀ y ∈ _, minI (if n < m then n else m) ns ≤ y
    have h3 := h2 _ List.mem_cons_self
    constructor
    · rcases List.mem_cons.mp h1 with h | h
      · rw [h]
        split
        · exact List.mem_cons_of_mem _ List.mem_cons_self
        · exact List.mem_cons_self
      · exact List.mem_cons_of_mem _ (List.mem_cons_of_mem _ h)
    · intro y hy
      rcases List.mem_cons.mp hy with h | h
      · subst h
        split at h3 <;> (split <;> omega)
      · rcases List.mem_cons.mp h with h | h
        · subst h
          split at h3 <;> (split <;> omega)
        · exact h2 y (List.mem_cons_of_mem _ h)
theorem insI_perm (n : Int) : ∀ ms : List Int, (insI n ms).Perm (n :: ms)
  | [] => List.Perm.refl _
  | m :: ms => by
    unfold insI
    split
    · exact List.Perm.refl _
    · exact ((insI_perm n ms).cons m).trans (List.Perm.swap n m ms)
theorem sortI_perm : ∀ ns : List Int, (sortI ns).Perm ns
  | [] => List.Perm.refl _
  | n :: ns => (insI_perm n _).trans ((sortI_perm ns).cons n)
theorem insI_sorted (n : Int) : ∀ ms : List Int, ms.Pairwise (· ≤ ·) → (insI n ms).Pairwise (· ≤ ·)
  | [], _ => by simp [insI]
  | m :: ms, h => by
    unfold insI
    rw [List.pairwise_cons] at h
    split
    · rename_i hn
      rw [List.pairwise_cons, List.pairwise_cons]
      exact ⟨fun y hy => by rcases List.mem_cons.mp hy with e | e; { omega }; { have := h.1 y e; omega }, h⟩
    · rename_i hn
      rw [List.pairwise_cons]
      refine ⟨fun y hy => ?_, insI_sorted n ms h.2⟩
      rcases List.mem_cons.mp ((insI_perm n ms).mem_iff.mp hy) with e | e
      · omega
      · exact h.1 y e
theorem sortI_sorted : ∀ ns : List Int, (sortI ns).Pairwise (· ≤ ·)
  | [] => List.Pairwise.nil
  | n :: ns => insI_sorted n _ (sortI_sorted ns)
/-- two ascending lists of the same members are one -/
theorem asc_uniq : ∀ {l l' : List Int}, l.Pairwise (· ≤ ·) → l'.Pairwise (· ≤ ·) → l.Perm l' → l = l'
  | [], l', _, _, p => (List.nil_perm.mp p).symm
  | a :: l, [], _, _, p => (List.perm_nil.mp p)
  | a :: l, c :: l', h, h', p => by
    rw [List.pairwise_cons] at h h'
    have h1 : c ∈ a :: l := p.symm.mem_iff.mp List.mem_cons_self
    have h2 : a ∈ c :: l' := p.mem_iff.mp List.mem_cons_self
    have e : a = c := by
      rcases List.mem_cons.mp h1 with e | e
      · exact e.symm
      · rcases List.mem_cons.mp h2 with e' | e'
        · exact e'
        · have := h.1 c e
          have := h'.1 a e'
          omega
    subst e
    rw [asc_uniq h.2 h'.2 (List.Perm.cons_inv p)]
section
variable {X : Cx} {K : KW} {bs : Bs} {a e : Expr} {pos p q1 : Pos} {fo : Ox} {Hf H : Hp} {x v : V} {d : D}
theorem rds1 {xs : List V} {d : D} (h : RdHs K Hf H xs [d]) : ∃ x, xs = [x] ∧ RdH K Hf H x d := by
  match xs, h with
  | [x], h => exact ⟨x, rfl, h.1⟩
theorem rds2 {xs : List V} {d e : D} (h : RdHs K Hf H xs [d, e]) : ∃ x y, xs = [x, y] ∧ RdH K Hf H x d ∧ RdH K Hf H y e := by
  match xs, h with
  | [x, y], h => exact ⟨x, y, rfl, h.1, h.2.1⟩
theorem cz_len : CallR X (.builtin "len") (rZN X.kw bs lenD) := callWk (call_len_seq.or call_len_str) fun xs H Q h => by
  obtain ⟨σ, Hf, Γ, dx, d, st, rx, e, q⟩ := h
  unfold lenD at e
  split at e
  · cases e
    obtain ⟨x, rfl, rx1⟩ := rds1 rx; replace rx := rx1
    obtain ⟨a, us, rfl, h1, h2⟩ := rd_lst st.fz rx
    exact .inl ⟨a, us, rfl, .inl (SqL.of h1), by rw [h2.len]; exact q.rest st (.int _)⟩
  · cases e
    obtain ⟨x, rfl, rx1⟩ := rds1 rx; replace rx := rx1
    obtain ⟨a, us, rfl, h1, _, h2⟩ := rd_tup st.fz rx
    exact .inl ⟨a, us, rfl, .inr h1, by rw [h2.len]; exact q.rest st (.int _)⟩
  · cases e
    obtain ⟨x, rfl, rx1⟩ := rds1 rx; replace rx := rx1
    obtain ⟨a, rfl, h1⟩ := rd_scr st.fz rx
    exact .inl ⟨a, _, rfl, .inl h1, by rw [List.length_map]; exact q.rest st (.int _)⟩
  · split at e
    · rename_i hz
      cases e
      obtain ⟨x, rfl, rx1⟩ := rds1 rx; replace rx := rx1
      exact .inr ⟨_, by rw [rd_str rx], szL hz, q.rest st (.int _)⟩
    · cases e
  · cases e
theorem SqT.tyx {a : Addr} {xs : List V} (q : SqT K.f H a xs) : TyX K.f H (.ref a) (.type "tuple") := by
  rcases q with (q | ⟨o, q⟩) | q
  · exact .base (.tup q)
  · exact .fTuple q
  · obtain ⟨o, n, its, e, c, _⟩ := q
    exact .kTuple e c
theorem rd_ty2 {n : String} (z : Same Hf H) (h : RdH K Hf H x d) (e : tyD d = some n) : TyX K.f H x (.type n) := by
  cases d with
  | non => cases e; rw [rd_non h]; exact .base .non
  | bl b => cases e; rw [rd_bl h]; exact .base (.bl b)
  | int b => cases e; rw [rd_int h]; exact .base (.int b)
  | str b => cases e; rw [rd_str h]; exact .base (.str b)
  | tup b => cases e; obtain ⟨a, us, rfl, h1, _⟩ := rd_tup z h; exact SqT.tyx h1
  | lst b => cases e; obtain ⟨a, us, rfl, h1, _⟩ := rd_lst z h; exact .base (.lst h1)
  | dct b => cases e; obtain ⟨a, us, rfl, h1, _⟩ := rd_dct z h; exact .base (.dK h1)
  | _ => cases e
theorem isK_kit {k : Cl} {c : Bool} (e : isK k d = some c) : ∃ n, tyD d = some n ∧ PySem.W.kitOne K.f (.type n) (.type k.nm) = some c := by
  cases d with
  | ty n => cases k <;> cases e
  | ob n => cases k <;> cases e
  | scr n => cases k <;> cases e
  | non => exact ⟨_, rfl, by cases k <;> cases e <;> exact kit_ty (by decide +kernel)⟩
  | bl b => exact ⟨_, rfl, by cases k <;> cases e <;> exact kit_ty (by decide +kernel)⟩
  | int b => exact ⟨_, rfl, by cases k <;> cases e <;> exact kit_ty (by decide +kernel)⟩
  | str b => exact ⟨_, rfl, by cases k <;> cases e <;> exact kit_ty (by decide +kernel)⟩
  | tup b => exact ⟨_, rfl, by cases k <;> cases e <;> exact kit_ty (by decide +kernel)⟩
  | lst b => exact ⟨_, rfl, by cases k <;> cases e <;> exact kit_ty (by decide +kernel)⟩
  | dct b => exact ⟨_, rfl, by cases k <;> cases e <;> exact kit_ty (by decide +kernel)⟩
  | dcn b => cases k <;> cases e
theorem z_isi (k : Cl) (hg : Gl X "isinstance") (hm : X.mg "isinstance" = none) (ha : PE X a (tO X.kw bs fo)) (hc : PE X e (tC (.ty k.nm)))
    (h1 : starEach [a, e] X.env = (false, eval a X.env) :: starEach [e] X.env := by rfl) (h2 : starEach [e] X.env = (false, eval e X.env) :: starEach [] X.env := by rfl)
    (hpl : (backTo pos (starEach [e] X.env)).any (·.1) = false := by rfl) : PE X (.Call (.Name "isinstance" p) [a, e] [] pos) (tZ X.kw bs (eIsi k fo)) :=
  (pe_callB call_isi hg hm (by decide +kernel) (pa_cons ha (pa_cons hc pa_nil h2) h1) (by decide) (by decide) h1 hpl).wk fun σ H Q hq => by
    obtain ⟨Hf, Γ, d, Γ', st, e, q⟩ := hq
    unfold eIsi at e
    rw [Option.bind_eq_some_iff] at e
    obtain ⟨⟨o1, Γ1⟩, e1, e⟩ := e
    rw [Option.bind_eq_some_iff] at e
    obtain ⟨dx, e3, e⟩ := e
    rw [Option.map_eq_some_iff] at e
    obtain ⟨c, e5, e⟩ := e
    cases e
    refine ⟨Hf, Γ, o1, Γ1, st, e1, fun v Hf1 H1 s1 x1 r1 => ?_⟩
    obtain ⟨n, t1, t2⟩ := isK_kit (K := X.kw) e5
    exact ⟨v, .ty k.nm, _, _, c, rfl, .ty _, rd_ty2 s1.fz (ovRd s1 r1 e3) t1, t2, q _ _ _ s1 x1 (.bl c)⟩
theorem rd_nn (h : RdH K Hf H x d) : x = .non ↔ d = .non := by
  constructor
  · rintro rfl
    rcases h with h | ⟨_, e, _⟩
    · cases h; rfl
    · cases e
  · rintro rfl; exact rd_non h
theorem oz_is : OpR X (compareOp .Is) (rZ X.kw bs isND) := opWk op_isN fun x y H Q h => by
  obtain ⟨σ, Hf, Γ, dx, dy, d, st, rx, ry, e, q⟩ := h
  have hb : dy = .non ∧ d = .bl (decide (x = .non)) := by
    have hx := rd_nn rx
    cases dy <;> cases dx <;> first | (cases e; done) | (cases e; exact ⟨rfl, by rw [decide_eq_true (hx.mpr rfl)]⟩) | (cases e; exact ⟨rfl, by rw [decide_eq_false (fun z => by cases hx.mp z)]⟩)
  obtain ⟨rfl, rfl⟩ := hb
  exact ⟨rd_non ry, q.rest st (.bl _)⟩
theorem oz_isn : OpR X (compareOp .IsNot) (rZ X.kw bs isnND) := opWk op_notN fun x y H Q h => by
  obtain ⟨σ, Hf, Γ, dx, dy, d, st, rx, ry, e, q⟩ := h
  have hb : dy = .non ∧ d = .bl (!decide (x = .non)) := by
    have hx := rd_nn rx
    cases dy <;> cases dx <;> first | (cases e; done) | (cases e; exact ⟨rfl, by rw [decide_eq_true (hx.mpr rfl)]; rfl⟩) | (cases e; exact ⟨rfl, by rw [decide_eq_false (fun z => by cases hx.mp z)]; rfl⟩)
  obtain ⟨rfl, rfl⟩ := hb
  exact ⟨rd_non ry, q.rest st (.bl _)⟩
theorem cz_int : CallR X (.type "int") (rZN X.kw bs intD) := callWk call_int1 fun xs H Q h => by
  obtain ⟨σ, Hf, Γ, dx, d, st, rx, e, q⟩ := h
  unfold intD at e
  split at e
  · cases e
    obtain ⟨x, rfl, rx1⟩ := rds1 rx; replace rx := rx1
    exact .inl ⟨_, by rw [rd_int rx], q.rest st (.int _)⟩
  · cases e
    obtain ⟨x, rfl, rx1⟩ := rds1 rx; replace rx := rx1
    exact .inr ⟨_, by rw [rd_bl rx], q.rest st (.int _)⟩
  · cases e
theorem cz_abs : CallR X (.builtin "abs") (rZN X.kw bs absD) := callWk call_abs fun xs H Q h => by
  obtain ⟨σ, Hf, Γ, dx, d, st, rx, e, q⟩ := h
  unfold absD at e
  split at e
  · cases e
    obtain ⟨x, rfl, rx1⟩ := rds1 rx; replace rx := rx1
    exact ⟨_, by rw [rd_int rx], q.rest st (.int _)⟩
  · cases e
theorem cz_max (hc : X.calm = true) : CallR X (.builtin "max") (rZN X.kw bs maxD) := callWk ((cr_max hc).or (call_max2 hc)) fun xs H Q h => by
  obtain ⟨σ, Hf, Γ, dx, d, st, rx, e, q⟩ := h
  unfold maxD at e
  split at e
  · rw [Option.bind_eq_some_iff] at e
    obtain ⟨ns, e1, e⟩ := e
    split at e
    · cases e
    · rename_i n ns
      cases e
      obtain ⟨x, rfl, rx1⟩ := rds1 rx; replace rx := rx1
      obtain ⟨a, us, rfl, h1, h2⟩ := rd_lst st.fz rx
      rw [intsOf_some e1] at h2
      rw [h2.ints] at h1
      refine .inl ⟨a, n :: ns, rfl, SqL.of h1, Nat.succ_pos _, fun m hm hy => ?_⟩
      obtain ⟨k1, k2⟩ := maxI_mem ns n
      have : m = maxI n ns := Int.le_antisymm (k2 m hm) (hy _ k1)
      rw [this]
      exact q.rest st (.int _)
  · cases e
    obtain ⟨x, y, rfl, rx1, ry⟩ := rds2 rx; replace rx := rx1
    exact .inr ⟨_, _, by rw [rd_int rx, rd_int ry], q.rest st (.int _)⟩
  · cases e
theorem cz_min (hc : X.calm = true) : CallR X (.builtin "min") (rZN X.kw bs minD) := callWk ((cr_min hc).or (call_min2 hc)) fun xs H Q h => by
  obtain ⟨σ, Hf, Γ, dx, d, st, rx, e, q⟩ := h
  unfold minD at e
  split at e
  · rw [Option.bind_eq_some_iff] at e
    obtain ⟨ns, e1, e⟩ := e
    split at e
    · cases e
    · rename_i n ns
      cases e
      obtain ⟨x, rfl, rx1⟩ := rds1 rx; replace rx := rx1
      obtain ⟨a, us, rfl, h1, h2⟩ := rd_lst st.fz rx
      rw [intsOf_some e1] at h2
      rw [h2.ints] at h1
      refine .inl ⟨a, n :: ns, rfl, SqL.of h1, Nat.succ_pos _, fun m hm hy => ?_⟩
      obtain ⟨k1, k2⟩ := minI_mem ns n
      have : m = minI n ns := Int.le_antisymm (hy _ k1) (k2 m hm)
      rw [this]
      exact q.rest st (.int _)
  · cases e
    obtain ⟨x, y, rfl, rx1, ry⟩ := rds2 rx; replace rx := rx1
    exact .inr ⟨_, _, by rw [rd_int rx, rd_int ry], q.rest st (.int _)⟩
  · cases e
theorem cz_sum (hc : X.calm = true) : CallR X (.builtin "sum") (rZN X.kw bs sumD) := callWk (cr_sum hc) fun xs H Q h => by
  obtain ⟨σ, Hf, Γ, dx, d, st, rx, e, q⟩ := h
  unfold sumD at e
  split at e
  · rw [Option.map_eq_some_iff] at e
    obtain ⟨ns, e1, rfl⟩ := e
    obtain ⟨x, rfl, rx1⟩ := rds1 rx; replace rx := rx1
    obtain ⟨a, us, rfl, h1, h2⟩ := rd_lst st.fz rx
    rw [intsOf_some e1] at h2
    rw [h2.ints] at h1
    exact ⟨a, ns, rfl, SqL.of h1, q.rest st (.int _)⟩
  · cases e
theorem cz_all (hc : X.calm = true) : CallR X (.builtin "all") (rZN X.kw bs allD) := callWk (cr_all hc) fun xs H Q h => by
  obtain ⟨σ, Hf, Γ, dx, d, st, rx, e, q⟩ := h
  unfold allD at e
  split at e
  · rw [Option.map_eq_some_iff] at e
    obtain ⟨ns, e1, rfl⟩ := e
    obtain ⟨x, rfl, rx1⟩ := rds1 rx; replace rx := rx1
    obtain ⟨a, us, rfl, h1, h2⟩ := rd_lst st.fz rx
    rw [blsOf_some e1] at h2
    rw [repBls h2] at h1
    exact ⟨a, ns, rfl, SqL.of h1, q.rest st (.bl _)⟩
  · cases e
theorem cz_any (hc : X.calm = true) : CallR X (.builtin "any") (rZN X.kw bs anyD) := callWk (cr_any hc) fun xs H Q h => by
  obtain ⟨σ, Hf, Γ, dx, d, st, rx, e, q⟩ := h
  unfold anyD at e
  split at e
  · rw [Option.map_eq_some_iff] at e
    obtain ⟨ns, e1, rfl⟩ := e
    obtain ⟨x, rfl, rx1⟩ := rds1 rx; replace rx := rx1
    obtain ⟨a, us, rfl, h1, h2⟩ := rd_lst st.fz rx
    rw [blsOf_some e1] at h2
    rw [repBls h2] at h1
    exact ⟨a, ns, rfl, SqL.of h1, q.rest st (.bl _)⟩
  · cases e
theorem cz_tuple : CallR X (.type "tuple") (rZN X.kw bs tupleD) := callWk call_tuple_of fun xs H Q h => by
  obtain ⟨σ, Hf, Γ, dx, d, st, rx, e, q⟩ := h
  unfold tupleD at e
  split at e
  · cases e
    obtain ⟨x, rfl, rx1⟩ := rds1 rx; replace rx := rx1
    obtain ⟨a, us, rfl, h1, h2⟩ := rd_lst st.fz rx
    exact ⟨a, us, rfl, .inl ⟨SqL.of h1, fun p np => q.tup st np h2⟩⟩
  · cases e
    obtain ⟨x, rfl, rx1⟩ := rds1 rx; replace rx := rx1
    obtain ⟨a, us, rfl, h1, h1', h2⟩ := rd_tup st.fz rx
    exact ⟨a, us, rfl, .inr ⟨h1, q.rest st (.tup h1' h2)⟩⟩
  · cases e
theorem cz_list : CallR X (.type "list") (rZNF X.kw bs listD) := callWk call_list_of fun xs H Q h => by
  obtain ⟨σ, Hf, Γ, dx, d, st, rx, e, q⟩ := h
  unfold listD at e
  split at e
  · cases e
    obtain ⟨x, rfl, rx1⟩ := rds1 rx; replace rx := rx1
    obtain ⟨a, us, rfl, h1, h2⟩ := rd_lst st.fz rx
    exact ⟨a, us, rfl, .inl (SqL.of h1), fun p np => q.lst st np h2⟩
  · cases e
    obtain ⟨x, rfl, rx1⟩ := rds1 rx; replace rx := rx1
    obtain ⟨a, us, rfl, h1, h1', h2⟩ := rd_tup st.fz rx
    exact ⟨a, us, rfl, .inr h1, fun p np => q.lst st np h2⟩
  · cases e
theorem cz_sorted : CallR X (.builtin "sorted") (rZNF X.kw bs sortedD) := callWk cr_sortedI fun xs H Q h => by
  obtain ⟨σ, Hf, Γ, dx, d, st, rx, e, q⟩ := h
  unfold sortedD at e
  split at e
  · rw [Option.map_eq_some_iff] at e
    obtain ⟨ns, e1, rfl⟩ := e
    obtain ⟨x, rfl, rx1⟩ := rds1 rx; replace rx := rx1
    obtain ⟨a, us, rfl, h1, h2⟩ := rd_lst st.fz rx
    rw [intsOf_some e1] at h2
    rw [h2.ints] at h1
    refine ⟨a, ns, rfl, SqL.of h1, fun ns' p h3 h4 np => ?_⟩
    rw [asc_uniq h4 (sortI_sorted ns) (h3.trans (sortI_perm ns).symm)]
    exact q.lst st np (RepAll.intsV _)
  · cases e
end
end Zd

set_option maxHeartbeats 4000000
/-! Statements over plain data. -/
namespace Zd
open PySem PySem.Spec PyProof.Rows L2 Pd
inductive Fl where
  | nx | br | ct | rt (d : D)
abbrev Sx := Gm → Option (Fl × Gm)
abbrev Tg := D → Gm → Option Gm
abbrev Tgs := List D → Gm → Option Gm
inductive Md where
  | rest | fresh | may
  deriving DecidableEq
/-- an object of its own, new since the def began -/
def NewR (K : KW) (b : Bs) (Hf H : Hp) (v : V) (d : D) : Prop := ∃ a, v = .ref a ∧ Hf a = none ∧ Cont K Hf H a d ∧ b.B a = none
def RetR (K : KW) (b : Bs) (fr : Md) (Hf H : Hp) (v : V) (d : D) : Prop := match fr with
  | .rest => Rep K Hf v d
  | .fresh => NewR K b Hf H v d
  | .may => (v = .non ∧ d = .non) ∨ NewR K b Hf H v d
def Fin (K : KW) (b : Bs) (fr : Md) (Hf : Hp) (D : Ends) (Γ' : Gm) : Fl → Prop
  | .nx => ∀ σ' Hf' H', StR K b Hf' H' σ' Γ' → Same Hf Hf' → D.nx σ' H'
  | .br => ∀ σ' Hf' H', StR K b Hf' H' σ' Γ' → Same Hf Hf' → D.bk σ' H'
  | .ct => ∀ σ' Hf' H', StR K b Hf' H' σ' Γ' → Same Hf Hf' → D.ct σ' H'
  | .rt d => ∀ v σ' Hf' H', StR K b Hf' H' σ' Γ' → Same Hf Hf' → RetR K b fr Hf' H' v d → D.rt v H'
def tS (K : KW) (b : Bs) (fr : Md) (f : Sx) : TS := fun D σ H => ∃ Hf Γ fl Γ', StR K b Hf H σ Γ ∧ f Γ = some (fl, Γ') ∧ Fin K b fr Hf D Γ' fl
theorem Fin.mono {K : KW} {b : Bs} {fr : Md} {Hf Hf' : Hp} {D : Ends} {Γ' : Gm} {fl : Fl} (h : Fin K b fr Hf D Γ' fl) (s : Same Hf Hf') : Fin K b fr Hf' D Γ' fl := by
  cases fl with
  | nx => exact fun σ' Hf2 H' st z => h σ' Hf2 H' st (s.trans z)
  | br => exact fun σ' Hf2 H' st z => h σ' Hf2 H' st (s.trans z)
  | ct => exact fun σ' Hf2 H' st z => h σ' Hf2 H' st (s.trans z)
  | rt d => exact fun v σ' Hf2 H' st z => h v σ' Hf2 H' st (s.trans z)
def sNil : Sx := fun Γ => some (.nx, Γ)
/-- what follows a statement -/
def thenS (g : Sx) (p : Fl × Gm) : Option (Fl × Gm) := match p.1 with
  | .nx => g p.2
  | fl => some (fl, p.2)
def sSeq (f g : Sx) : Sx := fun Γ => (f Γ).bind (thenS g)
def sExpr (f : Ex) : Sx := fun Γ => (f Γ).map fun p => (.nx, p.2)
def sRet (f : Ex) : Sx := fun Γ => (f Γ).map fun p => (.rt p.1, p.2)
def sRetN : Sx := fun Γ => some (.rt .non, Γ)
def sRetO (i : Nat) : Sx := fun Γ => match Γ[i]? with
  | some (.own d) => some (.rt d, Γ)
  | _ => none
def sIf (t : Tx) (f g : Sx) : Sx := fun Γ => (t Γ).bind fun p => if p.1 = true then f p.2 else g p.2
def sSet (i : Nat) (f : Ex) : Sx := fun Γ => (f Γ).map fun p => (.nx, p.2.set i (.val p.1))
def sOwn (i : Nat) (f : Ex) : Sx := fun Γ => (f Γ).map fun p => (.nx, p.2.set i (.own p.1))
def sAsg (f : Ex) (g : Tg) : Sx := fun Γ => (f Γ).bind fun p => (g p.1 p.2).map fun Γ' => (.nx, Γ')
def sAug (r : D → D → Option D) (i : Nat) (f : Ox) : Sx := fun Γ => (Γ[i]?.bind Sl.get).bind fun _ => (f Γ).bind fun p => (p.2[i]?.bind Sl.get).bind fun x => (p.1.get p.2).bind fun y => (r x y).map fun d => (.nx, p.2.set i (.val d))
def sNever : Sx := fun _ => none
def sBrk : Sx := fun Γ => some (.br, Γ)
def sCnt : Sx := fun Γ => some (.ct, Γ)
/-- an owned slot comes to rest (no code) -/
def frzS (i : Nat) (Γ : Gm) : Gm := match Γ[i]? with
  | some (.own d) => Γ.set i (.val d)
  | _ => Γ
def sFrz (i : Nat) (f : Sx) : Sx := fun Γ => f (frzS i Γ)
def gN (i : Nat) : Tg := fun d Γ => some (Γ.set i (.val d))
def gT (g : Tgs) : Tg := fun d Γ => match d with
  | .tup ds => g ds Γ
  | _ => none
def gsN : Tgs := fun ds Γ => match ds with
  | [] => some Γ
  | _ => none
def gsC (g : Tg) (gs : Tgs) : Tgs := fun ds Γ => match ds with
  | d :: r => (g d Γ).bind fun Γ' => gs r Γ'
  | [] => none
def tG (K : KW) (b : Bs) (is : List Nat) (g : Tg) : TG := fun v σ H Q => ∃ Hf Γ d Γ', StR K b Hf H σ Γ ∧ Rep K Hf v d ∧ g d Γ = some Γ' ∧ ∀ σ', StR K b Hf H σ' Γ' → σ'.length = σ.length → (∀ j, j ∉ is → σ'[j]? = σ[j]?) → (∀ j, mu Γ' j → j ∉ is ∧ mu Γ j) → Q σ' H
def tGs (K : KW) (b : Bs) (is : List Nat) (g : Tgs) : TGs := fun vs σ H Q => ∃ Hf Γ ds Γ', StR K b Hf H σ Γ ∧ RepAll K Hf vs ds ∧ g ds Γ = some Γ' ∧ ∀ σ', StR K b Hf H σ' Γ' → σ'.length = σ.length → (∀ j, j ∉ is → σ'[j]? = σ[j]?) → (∀ j, mu Γ' j → j ∉ is ∧ mu Γ j) → Q σ' H
theorem _root_.L2.PS.wk {X : Cx} {e : Stmt} {t t' : TS} (h : PS X e t) (w : ∀ D σ H, t' D σ H → t D σ H) : PS X e t' := ⟨fun pins s σ H D I q => h.run pins s σ H D I (w D σ H q)⟩
theorem _root_.L2.PSs.wk {X : Cx} {e : List Stmt} {t t' : TS} (h : PSs X e t) (w : ∀ D σ H, t' D σ H → t D σ H) : PSs X e t' := ⟨fun pins s σ H D I q => h.run pins s σ H D I (w D σ H q)⟩
theorem _root_.L2.PG.wk {X : Cx} {e : Expr} {t t' : TG} (h : PG X e t) (w : ∀ v σ H Q, t' v σ H Q → t v σ H Q) : PG X e t' := ⟨fun pins s σ H v u Q I r q => h.run pins s σ H v u Q I r (w v σ H Q q)⟩
theorem _root_.L2.PGs.wk {X : Cx} {e : List Expr} {t t' : TGs} (h : PGs X e t) (w : ∀ v σ H Q, t' v σ H Q → t v σ H Q) : PGs X e t' := ⟨fun pins s σ H v u Q I r q => h.run pins s σ H v u Q I r (w v σ H Q q)⟩
section
variable {X : Cx} {K : KW} {bs : Bs} {fr : Md} {a b c e o tg : Expr} {es rest : List Expr} {pos p2 : Pos} {f g h : Ex} {fo go ho : Ox} {fs : Exs} {os : Oxs} {x : Str} {i : Nat} {t u : Tx} {st : Stmt} {sts : List Stmt} {u1 u2 : Sx} {is js : List Nat} {gt : Tg} {gs : Tgs}
theorem s_nil : PSs X [] (tS K bs fr sNil) := pss_nil.wk fun D σ H ⟨Hf, Γ, fl, Γ', s, e, q⟩ => by
  have e : some (Fl.nx, Γ) = some (fl, Γ') := e
  cases e
  exact q σ Hf H s (Same.refl _)
theorem s_seq (h1 : PS X st (tS K bs fr u1)) (h2 : PSs X sts (tS K bs fr u2)) : PSs X (st :: sts) (tS K bs fr (sSeq u1 u2)) := (pss_cons h1 h2).wk fun D σ H ⟨Hf, Γ, fl, Γ', s, e, q⟩ => by
  unfold sSeq at e
  rw [Option.bind_eq_some_iff] at e
  obtain ⟨⟨fl1, Γ1⟩, e1, e2⟩ := e
  cases fl1 with
  | nx => exact ⟨Hf, Γ, .nx, Γ1, s, e1, fun σ1 Hf1 H1 s1 z1 => ⟨Hf1, Γ1, fl, Γ', s1, e2, q.mono z1⟩⟩
  | br =>
    have e2 : some (Fl.br, Γ1) = some (fl, Γ') := e2
    cases e2
    exact ⟨Hf, Γ, .br, _, s, e1, q⟩
  | ct =>
    have e2 : some (Fl.ct, Γ1) = some (fl, Γ') := e2
    cases e2
    exact ⟨Hf, Γ, .ct, _, s, e1, q⟩
  | rt d =>
    have e2 : some (Fl.rt d, Γ1) = some (fl, Γ') := e2
    cases e2
    exact ⟨Hf, Γ, .rt d, _, s, e1, q⟩
theorem s_one (h1 : PS X st (tS K bs fr u1)) : PSs X [st] (tS K bs fr u1) := pss_one h1
theorem s_frz (h : PSs X sts (tS K bs fr u1)) (i : Nat) : PSs X sts (tS K bs fr (sFrz i u1)) := h.wk fun D σ H ⟨Hf, Γ, fl, Γ', s, e, q⟩ => by
  unfold sFrz frzS at e
  split at e
  · rename_i d eg
    obtain ⟨o, h1, h2⟩ := s.slot eg
    cases h2 with
    | own n c hb =>
      rename_i a
      have hn : ∀ o, H a = some o → Rep K (upd Hf a o) (.ref a) d → StR K bs (upd Hf a o) H σ (Γ.set i (.val d)) := fun o ho r => by
        have s0 : StR K bs Hf H (σ.set i (some (V.ref a))) (Γ.set i .no) := s.setN
        have es : σ.set i (some (V.ref a)) = σ := by
          apply List.ext_getElem?
          intro j
          by_cases hj : j = i
          · subst hj
            rw [List.getElem?_set_self (List.getElem?_eq_some_iff.mp h1).1, h1]
          · rw [List.getElem?_set_ne (Ne.symm hj)]
        rw [es] at s0
        have hm : ∀ j, mu (Γ.set i .no) j → σ[j]? ≠ some (some (.ref a)) := fun j m ej => by
          have hj : j ≠ i := fun hj => by
            subst hj
            obtain ⟨d', e'⟩ := m
            rw [List.getElem?_set_self (List.getElem?_eq_some_iff.mp eg).1] at e'
            rcases e' with e' | e' <;> cases e'
          exact hj (s.inj j i a (mu_set m hj) ⟨d, .inl eg⟩ ej h1)
        have s1 := (s0.restAt ho hm n hb).setV (i := i) r
        rw [es, List.set_set] at s1
        exact s1
      cases d with
      | lst ds =>
        obtain ⟨xs, e1, r⟩ := c
        exact ⟨_, _, fl, Γ', hn _ e1 (.lst upd_same (r.mono (sameNew n))), e, q.mono (sameNew n)⟩
      | dct ds =>
        obtain ⟨xs, e1, r⟩ := c
        exact ⟨_, _, fl, Γ', hn _ e1 (.dct upd_same (r.mono (sameNew n))), e, q.mono (sameNew n)⟩
      | dcn ds =>
        obtain ⟨xs, ep, e1, hl, r, nd⟩ := c
        exact ⟨_, _, fl, Γ', hn _ e1 (.dcn upd_same hl (r.mono (sameNew n)) nd), e, q.mono (sameNew n)⟩
      | _ => exact c.elim
  · exact ⟨Hf, Γ, fl, Γ', s, e, q⟩
theorem s_pass : PS X (.Pass pos) (tS K bs fr sNil) := ps_pass.wk fun D σ H ⟨Hf, Γ, fl, Γ', s, e, q⟩ => by
  have e : some (Fl.nx, Γ) = some (fl, Γ') := e
  cases e
  exact q σ Hf H s (Same.refl _)
theorem s_brk : PS X (.Break pos) (tS K bs fr sBrk) := ps_break.wk fun D σ H ⟨Hf, Γ, fl, Γ', s, e, q⟩ => by
  have e : some (Fl.br, Γ) = some (fl, Γ') := e
  cases e
  exact q σ Hf H s (Same.refl _)
theorem s_cnt : PS X (.Continue pos) (tS K bs fr sCnt) := ps_continue.wk fun D σ H ⟨Hf, Γ, fl, Γ', s, e, q⟩ => by
  have e : some (Fl.ct, Γ) = some (fl, Γ') := e
  cases e
  exact q σ Hf H s (Same.refl _)
theorem s_never : PS X st (tS K bs fr sNever) := ps_never.wk fun D σ H ⟨Hf, Γ, fl, Γ', s, e, q⟩ => by cases e
theorem s_expr (he : PE X e (tZ K bs f)) (hs : swapsWith e none pos.line X.env = pure false := by rfl) : PS X (.Expr e pos) (tS K bs fr (sExpr f)) := (ps_expr he hs).wk fun D σ H ⟨Hf, Γ, fl, Γ', s, e, q⟩ => by
  unfold sExpr at e
  rw [Option.map_eq_some_iff] at e
  obtain ⟨⟨d, Γ1⟩, e1, e2⟩ := e
  cases e2
  exact ⟨Hf, Γ, d, Γ1, s, e1, fun v Hf1 H1 s1 x1 r1 => q σ Hf1 H1 s1 x1.f⟩
theorem s_ret (he : PE X e (tZ K bs f)) : PS X (.Return (some e) pos) (tS K bs .rest (sRet f)) := (ps_ret he).wk fun D σ H ⟨Hf, Γ, fl, Γ', s, e, q⟩ => by
  unfold sRet at e
  rw [Option.map_eq_some_iff] at e
  obtain ⟨⟨d, Γ1⟩, e1, e2⟩ := e
  cases e2
  exact ⟨Hf, Γ, d, Γ1, s, e1, fun v Hf1 H1 s1 x1 r1 => q v σ Hf1 H1 s1 x1.f r1⟩
theorem s_retF (he : PE X e (tF K bs f)) : PS X (.Return (some e) pos) (tS K bs .fresh (sRet f)) := (ps_ret he).wk fun D σ H ⟨Hf, Γ, fl, Γ', s, e, q⟩ => by
  unfold sRet at e
  rw [Option.map_eq_some_iff] at e
  obtain ⟨⟨d, Γ1⟩, e1, e2⟩ := e
  cases e2
  exact ⟨Hf, Γ, d, Γ1, s, e1, fun v Hf1 H1 s1 x1 n1 n2 r1 => q _ σ Hf1 H1 s1 x1.f ⟨v, rfl, n2, r1, s.bnone n1⟩⟩
theorem s_retO (he : PE X e (tVar i)) : PS X (.Return (some e) pos) (tS K bs .fresh (sRetO i)) := (ps_ret he).wk fun D σ H ⟨Hf, Γ, fl, Γ', s, e, q⟩ => by
  unfold sRetO at e
  split at e
  · rename_i d eg
    cases e
    obtain ⟨o, h1, h2⟩ := s.slot eg
    cases h2 with
    | own n c hb => exact ⟨_, h1, q _ σ Hf H s (Same.refl _) ⟨_, rfl, n, c, hb⟩⟩
  · cases e
theorem s_retN : PS X (.Return none pos) (tS K bs .rest sRetN) := ps_retN.wk fun D σ H ⟨Hf, Γ, fl, Γ', s, e, q⟩ => by
  have e : some (Fl.rt .non, Γ) = some (fl, Γ') := e
  cases e
  exact q _ σ Hf H s (Same.refl _) .non
theorem s_if {as cs : List Stmt} (hc : PT X c (tX K bs t)) (ha : PSs X as (tS K bs fr u1)) (hb : PSs X cs (tS K bs fr u2)) : PS X (.If c as cs pos) (tS K bs fr (sIf t u1 u2)) := (ps_if hc ha hb).wk fun D σ H ⟨Hf, Γ, fl, Γ', s, e, q⟩ => by
  unfold sIf at e
  rw [Option.bind_eq_some_iff] at e
  obtain ⟨⟨c', Γ1⟩, e1, e⟩ := e
  refine ⟨Hf, Γ, c', Γ1, s, e1, fun Hf1 H1 s1 x1 => ?_⟩
  cases c' with
  | true => exact iteT ⟨Hf1, Γ1, fl, Γ', s1, e, q.mono x1.f⟩
  | false => exact iteF ⟨Hf1, Γ1, fl, Γ', s1, e, q.mono x1.f⟩
theorem set_of (σ : L2.St) (H : Hp) (D : Ends) (hq : tS K bs fr (sSet i f) D σ H) : tAsg (tZ K bs f) (gName i) D σ H := by
  obtain ⟨Hf, Γ, fl, Γ', s, e, q⟩ := hq
  unfold sSet at e
  rw [Option.map_eq_some_iff] at e
  obtain ⟨⟨d, Γ1⟩, e1, e2⟩ := e
  cases e2
  exact ⟨Hf, Γ, d, Γ1, s, e1, fun v Hf1 H1 s1 x1 r1 => q _ Hf1 H1 (s1.setV r1) x1.f⟩
theorem own_of (σ : L2.St) (H : Hp) (D : Ends) (hq : tS K bs fr (sOwn i f) D σ H) : tAsg (tF K bs f) (gName i) D σ H := by
  obtain ⟨Hf, Γ, fl, Γ', s, e, q⟩ := hq
  unfold sOwn at e
  rw [Option.map_eq_some_iff] at e
  obtain ⟨⟨d, Γ1⟩, e1, e2⟩ := e
  cases e2
  exact ⟨Hf, Γ, d, Γ1, s, e1, fun v Hf1 H1 s1 x1 n1 n2 r1 => q _ Hf1 H1 (s1.setO n2 r1 (s.bnone n1) fun j m ej => s.mune (x1.k j m) ej n1 rfl) x1.f⟩
theorem s_set {pos' : Pos} (hN : X.N.Nodup) (hi : X.N[i]? = some x) (hx : Loc X.env.scope x) (he : PE X e (tZ K bs f)) (hs : swapsWith e (some (.Name x pos')) pos.line X.env = pure false := by rfl) (hf : X.fn x = true ∨ X.env.scope.names.lookup x = some .local := by first | exact .inl rfl | exact .inr rfl | assumption) :
    PS X (.Assign [.Name x pos'] e pos) (tS K bs fr (sSet i f)) := (ps_set hN hi hx he hs hf).wk fun D σ H q => set_of σ H D q
theorem s_own {pos' : Pos} (hN : X.N.Nodup) (hi : X.N[i]? = some x) (hx : Loc X.env.scope x) (he : PE X e (tF K bs f)) (hs : swapsWith e (some (.Name x pos')) pos.line X.env = pure false := by rfl) (hf : X.fn x = true ∨ X.env.scope.names.lookup x = some .local := by first | exact .inl rfl | exact .inr rfl | assumption) :
    PS X (.Assign [.Name x pos'] e pos) (tS K bs fr (sOwn i f)) := (ps_set hN hi hx he hs hf).wk fun D σ H q => own_of σ H D q
/-! ### targets -/
theorem mu_val {Γ : Gm} {d : D} {j : Nat} (m : mu (Γ.set i (.val d)) j) : j ≠ i ∧ mu Γ j := by
  have hj : j ≠ i := fun hj => by
    subst hj
    obtain ⟨d', e⟩ := m
    by_cases h2 : j < Γ.length
    · rw [List.getElem?_set_self h2] at e; rcases e with e | e <;> cases e
    · rw [List.getElem?_eq_none (by rw [List.length_set]; omega)] at e; rcases e with e | e <;> cases e
  exact ⟨hj, mu_set m hj⟩
theorem g_name (hN : X.N.Nodup) (hi : X.N[i]? = some x) (hx : Loc X.env.scope x) (hf : X.fn x = true ∨ X.env.scope.names.lookup x = some .local := by first | exact .inl rfl | exact .inr rfl | assumption) : PG X (.Name x pos) (tG K bs [i] (gN i)) := (pg_name hN hi hx hf).wk fun v σ H Q ⟨Hf, Γ, d, Γ', s, r, e, q⟩ => by
  have e : some (Γ.set i (.val d)) = some Γ' := e
  cases e
  refine q _ (s.setV r) (List.length_set ..) (fun j hj => ?_) fun j m => ⟨fun z => (mu_val m).1 (List.mem_singleton.mp z), (mu_val m).2⟩
  rw [List.getElem?_set_ne]
  exact fun z => hj (List.mem_singleton.mpr z.symm)
theorem gs_nil : PGs X [] (tGs K bs [] gsN) := pgs_nil.wk fun v σ H Q ⟨Hf, Γ, ds, Γ', s, r, e, q⟩ => by
  cases r with
  | nil =>
    have e : some Γ = some Γ' := e
    cases e
    exact ⟨rfl, q _ s rfl (fun _ _ => rfl) fun j m => ⟨by simp, m⟩⟩
  | cons => cases e
theorem gs_cons (h1 : PG X e (tG K bs is gt)) (h2 : PGs X es (tGs K bs js gs)) (hs : (assignEach (e :: es) X.env).map (·.2) = assign e X.env :: (assignEach es X.env).map (·.2) := by rfl) : PGs X (e :: es) (tGs K bs (is ++ js) (gsC gt gs)) := (pgs_cons h1 h2 hs).wk fun v σ H Q ⟨Hf, Γ, ds, Γ', s, r, e, q⟩ => by
  cases r with
  | nil => cases e
  | cons r rs =>
    have e := Option.bind_eq_some_iff.mp e
    obtain ⟨Γ1, e1, e2⟩ := e
    refine ⟨_, _, rfl, Hf, Γ, _, Γ1, s, r, e1, fun σ1 s1 l1 k1 m1 => ⟨Hf, Γ1, _, Γ', s1, rs, e2, fun σ2 s2 l2 k2 m2 => q σ2 s2 (l2.trans l1) (fun j hj => ?_) fun j m => ?_⟩⟩
    · rw [List.mem_append, not_or] at hj
      rw [k2 j hj.2, k1 j hj.1]
    · obtain ⟨a1, a2⟩ := m2 j m
      obtain ⟨b1, b2⟩ := m1 j a2
      exact ⟨by rw [List.mem_append, not_or]; exact ⟨b1, a1⟩, b2⟩
theorem g_tup {k : Nat} {n : Nat} (hc : X.calm = true) (h : PGs X es (tGs X.kw bs is gs)) (hw : ∀ ds Γ Γ', gs ds Γ = some Γ' → ds.length = n)
    (hn : (assignEach es X.env).length = n := by rfl) (hst : (assignEach es X.env).findIdx? (·.1) = none := by rfl) : PG X (.Tuple es k pos) (tG X.kw bs is (gT gs)) := (pg_tup hc h hn hst).wk fun v σ H Q ⟨Hf, Γ, d, Γ', s, r, e, q⟩ => by
  cases r with
  | tup h1 h2 =>
    have e : gs _ Γ = some Γ' := e
    exact ⟨_, _, rfl, sqT_mono s.fz h1, by rw [h2.len]; exact hw _ _ _ e, Hf, Γ, _, Γ', s, h2, e, q⟩
  | _ => cases e
theorem len_gsN : ∀ ds Γ Γ', gsN ds Γ = some Γ' → ds.length = 0 := fun ds Γ Γ' e => by
  cases ds with
  | nil => rfl
  | cons => cases e
theorem len_gsC {n : Nat} (h : ∀ ds Γ Γ', gs ds Γ = some Γ' → ds.length = n) : ∀ ds Γ Γ', gsC gt gs ds Γ = some Γ' → ds.length = n + 1 := fun ds Γ Γ' e => by
  cases ds with
  | nil => cases e
  | cons d r =>
    have e := Option.bind_eq_some_iff.mp e
    obtain ⟨Γ1, e1, e2⟩ := e
    exact congrArg Nat.succ (h _ _ _ e2)
theorem s_asg (he : PE X e (tZ K bs f)) (hg : PG X tg (tG K bs is gt)) (hs : swapsWithSole [tg] e pos.line X.env = pure false := by rfl) (hw : swappedStores [tg] e X.env = pure none := by rfl) (h1 : (assignEach [tg] X.env).map (·.2) = [assign tg X.env] := by rfl) : PS X (.Assign [tg] e pos) (tS K bs fr (sAsg f gt)) := (ps_asg he hg hs hw h1).wk fun D σ H ⟨Hf, Γ, fl, Γ', s, e, q⟩ => by
  unfold sAsg at e
  rw [Option.bind_eq_some_iff] at e
  obtain ⟨⟨d, Γ1⟩, e1, e2⟩ := e
  rw [Option.map_eq_some_iff] at e2
  obtain ⟨Γ2, e2, e3⟩ := e2
  cases e3
  exact ⟨Hf, Γ, d, Γ1, s, e1, fun v Hf1 H1 s1 x1 r1 => ⟨Hf1, Γ1, d, _, s1, r1, e2, fun σ' s2 _ _ _ => q σ' Hf1 H1 s2 x1.f⟩⟩
theorem ip_wk {op : Operator} {t t' : TIp} (h : PIp X op t) (w : ∀ x y H Q, t' x y H Q → t x y H Q) : PIp X op t' := fun pins s σ H x y v u Q I rx ry q => h pins s σ H x y v u Q I rx ry (w x y H Q q)
theorem iz_add : PIp X .Add (rZ X.kw bs (fun x y => (toI x).bind fun i => (toI y).map fun j => .int (i + j))) := ip_wk ip_add fun x y H Q h => by
  obtain ⟨σ, Hf, Γ, dx, dy, d, st, rx, ry, e, q⟩ := h
  rw [Option.bind_eq_some_iff] at e
  obtain ⟨i, e1, e⟩ := e
  rw [Option.map_eq_some_iff] at e
  obtain ⟨j, e2, rfl⟩ := e
  rw [toI_some e1] at rx
  rw [toI_some e2] at ry
  exact ⟨i, j, rd_int rx, rd_int ry, q.rest st (.int _)⟩
theorem iz_sub : PIp X .Sub (rZ X.kw bs (fun x y => (toI x).bind fun i => (toI y).map fun j => .int (i - j))) := ip_wk ip_sub fun x y H Q h => by
  obtain ⟨σ, Hf, Γ, dx, dy, d, st, rx, ry, e, q⟩ := h
  rw [Option.bind_eq_some_iff] at e
  obtain ⟨i, e1, e⟩ := e
  rw [Option.map_eq_some_iff] at e
  obtain ⟨j, e2, rfl⟩ := e
  rw [toI_some e1] at rx
  rw [toI_some e2] at ry
  exact ⟨i, j, rd_int rx, rd_int ry, q.rest st (.int _)⟩
def addI (x y : D) : Option D := (toI x).bind fun i => (toI y).map fun j => .int (i + j)
def subI (x y : D) : Option D := (toI x).bind fun i => (toI y).map fun j => .int (i - j)
theorem s_aug {op : Operator} {r : D → D → Option D} {pos' : Pos} (hN : X.N.Nodup) (hi : X.N[i]? = some x) (hx : Loc X.env.scope x) (he : PE X e (tO X.kw bs fo)) (ho : PIp X op (rZ X.kw bs r)) (hf : X.fn x = true ∨ X.env.scope.names.lookup x = some .local := by first | exact .inl rfl | exact .inr rfl | assumption) :
    PS X (.AugAssign (.Name x pos') op e pos) (tS X.kw bs fr (sAug r i fo)) := (ps_aug hN hi hx he ho hf).wk fun D σ H ⟨Hf, Γ, fl, Γ', s, e, q⟩ => by
  unfold sAug at e
  rw [Option.bind_eq_some_iff] at e
  obtain ⟨_, e0, e⟩ := e
  rw [Option.bind_eq_some_iff] at e
  obtain ⟨⟨o1, Γ1⟩, e1, e⟩ := e
  rw [Option.bind_eq_some_iff] at e
  obtain ⟨dx, e2, e⟩ := e
  rw [Option.bind_eq_some_iff] at e
  obtain ⟨dy, e3, e⟩ := e
  rw [Option.map_eq_some_iff] at e
  obtain ⟨d, e4, e⟩ := e
  cases e
  have hσ : ∃ v, σ[i]? = some (some v) := by
    rw [Option.bind_eq_some_iff] at e0
    obtain ⟨w, e5, e6⟩ := e0
    obtain ⟨o, h1, h2⟩ := s.slot e5
    cases h2 with
    | no => cases e6
    | fn r => cases e6
    | val r => exact ⟨_, h1⟩
    | own r => exact ⟨_, h1⟩
    | byr r => exact ⟨_, h1⟩
  obtain ⟨v, hv⟩ := hσ
  refine ⟨v, hv, Hf, Γ, o1, Γ1, s, e1, fun u Hf1 H1 s1 x1 r1 => ⟨σ, Hf1, Γ1, dx, dy, d, s1, ?_, ovRd s1 r1 e3, e4, fun w Hf2 H2 s2 x2 r2 => q _ Hf2 H2 (s2.setV r2) (x1.f.trans x2.f)⟩⟩
  exact ovRd (o := .s i) s1 hv e2
end
end Zd

set_option maxHeartbeats 4000000
/-! Loops and what they walk. -/
namespace Zd
open PySem PySem.Spec PyProof.Rows L2 Pd
/-- what is walked yields the data ds, in turn -/
def ItOk (K : KW) (b : Bs) (J : It) (Hf : Hp) (ds : List D) : Prop := ∀ σ Γ Hf' H', StR K b Hf' H' σ Γ → Same Hf Hf' →
  (∀ i d, ds[i]? = some d → J.go i H' ∧ ∀ x H3, J.yld i H' x H3 → ∃ Hf3, StR K b Hf3 H3 σ Γ ∧ Ext σ Γ Γ Hf' H' Hf3 H3 ∧ Rep K Hf3 x d) ∧ J.stop ds.length H'
def tI (K : KW) (b : Bs) (f : Exs) : TI := fun σ H R => ∃ Hf Γ ds Γ', StR K b Hf H σ Γ ∧ f Γ = some (ds, Γ') ∧ ∀ J Hf' H', StR K b Hf' H' σ Γ' → Ext σ Γ Γ' Hf H Hf' H' → ItOk K b J Hf' ds → R J H'
def forL (g : Tg) (f : Sx) : List D → Gm → Option (Fl × Gm)
  | [], Γ => some (.nx, Γ)
  | d :: ds, Γ => (g d Γ).bind fun Γ1 => (f Γ1).bind fun p => match p.1 with
    | .nx => forL g f ds p.2
    | .ct => forL g f ds p.2
    | .br => some (.nx, p.2)
    | .rt d => some (.rt d, p.2)
def sFor (it : Exs) (g : Tg) (f : Sx) : Sx := fun Γ => (it Γ).bind fun p => forL g f p.1 p.2
def whileL (t : Tx) (f : Sx) : Nat → Gm → Option (Fl × Gm)
  | 0, _ => none
  | n + 1, Γ => (t Γ).bind fun c => if c.1 = true then (f c.2).bind fun p => match p.1 with
      | .nx => whileL t f n p.2
      | .ct => whileL t f n p.2
      | .br => some (.nx, p.2)
      | .rt d => some (.rt d, p.2)
    else some (.nx, c.2)
theorem whileL_mono {t : Tx} {f : Sx} : ∀ {n m : Nat} {Γ : Gm} {r : Fl × Gm}, whileL t f n Γ = some r → n ≤ m → whileL t f m Γ = some r
  | 0, _, _, _, e, _ => by cases e
  | n + 1, 0, _, _, _, h => absurd h (by omega)
  | n + 1, m + 1, Γ, r, e, h => by
    rw [whileL, Option.bind_eq_some_iff] at e ⊢
    obtain ⟨c, e1, e⟩ := e
    refine ⟨c, e1, ?_⟩
    split at e
    · rename_i hc
      rw [if_pos hc]
      rw [Option.bind_eq_some_iff] at e ⊢
      obtain ⟨p, e2, e⟩ := e
      refine ⟨p, e2, ?_⟩
      obtain ⟨fl, Γ1⟩ := p
      cases fl with
      | nx => exact whileL_mono (n := n) e (by omega)
      | ct => exact whileL_mono (n := n) e (by omega)
      | br => exact e
      | rt d => exact e
    · rename_i hc
      rw [if_neg hc]
      exact e
open Classical in
noncomputable def sWhile (t : Tx) (f : Sx) : Sx := fun Γ => if h : ∃ n r, whileL t f n Γ = some r then some (Classical.choose (Classical.choose_spec h)) else none
theorem sWhile_of {t : Tx} {f : Sx} {n : Nat} {Γ : Gm} {r : Fl × Gm} (e : whileL t f n Γ = some r) : sWhile t f Γ = some r := by
  have h : ∃ n r, whileL t f n Γ = some r := ⟨n, r, e⟩
  unfold sWhile
  rw [dif_pos h]
  have e2 := Classical.choose_spec (Classical.choose_spec h)
  generalize Classical.choose (Classical.choose_spec h) = r' at e2
  have a := whileL_mono e (Nat.le_max_left n (Classical.choose h))
  have c := whileL_mono e2 (Nat.le_max_right n (Classical.choose h))
  rw [a] at c
  exact congrArg some (Option.some.inj c).symm
theorem sWhile_some {t : Tx} {f : Sx} {Γ : Gm} {r : Fl × Gm} (e : sWhile t f Γ = some r) : ∃ n, whileL t f n Γ = some r := by
  unfold sWhile at e
  split at e
  · rename_i h
    exact ⟨_, by rw [Classical.choose_spec (Classical.choose_spec h)]; exact e⟩
  · cases e
section
variable {X : Cx} {K : KW} {bs : Bs} {fr : Md} {a b c e o tg it : Expr} {es rest : List Expr} {pos p2 : Pos} {f g h : Ex} {fo go ho : Ox} {fs : Exs} {os : Oxs} {x : Str} {i : Nat} {t u : Tx} {st : Stmt} {sts : List Stmt} {u1 u2 : Sx} {is js : List Nat} {gt : Tg} {gs : Tgs}
theorem drop_cons {α : Type} {ds : List α} {i : Nat} {d : α} (h : ds[i]? = some d) : ds.drop i = d :: ds.drop (i + 1) := by
  obtain ⟨h1, h2⟩ := List.getElem?_eq_some_iff.mp h
  rw [List.drop_eq_getElem_cons h1, h2]
theorem s_for (hp : PassesOwn (model X.prog X.w) X.A X.env X.xe) (hc : X.calm = true) (hi : PI X tg it (tI K bs fs)) (hg : PG X tg (tG K bs is gt)) (hb : PSs X sts (tS K bs fr u1))
    (hs : ∀ x, foldedSetIterable it X.env x = pure x := by intro _; rfl) : PS X (.For tg it sts [] pos) (tS K bs fr (sFor fs gt u1)) := (ps_for hp hc hi hg hb hs).wk fun D σ H ⟨Hf, Γ, fl, Γ', s, e, q⟩ => by
  unfold sFor at e
  rw [Option.bind_eq_some_iff] at e
  obtain ⟨⟨ds, Γ1⟩, e1, e⟩ := e
  refine ⟨Hf, Γ, ds, Γ1, s, e1, fun J Hf1 H1 s1 x1 ok => ?_⟩
  refine ⟨fun i m σ H => ∃ Hf2 Γ2, i ≤ ds.length ∧ m = ds.length - i ∧ StR K bs Hf2 H σ Γ2 ∧ Same Hf1 Hf2 ∧ forL gt u1 (ds.drop i) Γ2 = some (fl, Γ'), ⟨ds.length, Hf1, Γ1, Nat.zero_le _, rfl, s1, Same.refl _, e⟩, ?_⟩
  rintro i m σ2 H2 ⟨Hf2, Γ2, hi, rfl, s2, z2, e2⟩
  by_cases hlt : i < ds.length
  · right
    have hd : ds[i]? = some ds[i] := List.getElem?_eq_getElem hlt
    obtain ⟨go, yl⟩ := (ok σ2 Γ2 Hf2 H2 s2 z2).1 i _ hd
    rw [drop_cons hd, forL, Option.bind_eq_some_iff] at e2
    obtain ⟨Γ3, e3, e2⟩ := e2
    rw [Option.bind_eq_some_iff] at e2
    obtain ⟨⟨fl4, Γ4⟩, e4, e2⟩ := e2
    refine ⟨go, fun σ5 H5 => ∃ Hf5, StR K bs Hf5 H5 σ5 Γ4 ∧ Same Hf1 Hf5 ∧ forL gt u1 (ds.drop (i + 1)) Γ4 = some (fl, Γ'), fun σ5 H5 ⟨Hf5, s5, z5, e5⟩ => ⟨ds.length - (i + 1), by omega, Hf5, Γ4, hlt, rfl, s5, z5, e5⟩, fun y H3 hy => ?_⟩
    obtain ⟨Hf3, s3, x3, r3⟩ := yl y H3 hy
    refine ⟨Hf3, Γ2, _, Γ3, s3, r3, e3, fun σ6 s6 _ _ _ => ⟨Hf3, Γ3, fl4, Γ4, s6, e4, ?_⟩⟩
    have z3 : Same Hf1 Hf3 := z2.trans x3.f
    cases fl4 with
    | nx => exact fun σ7 Hf7 H7 s7 z7 => ⟨Hf7, s7, z3.trans z7, e2⟩
    | ct => exact fun σ7 Hf7 H7 s7 z7 => ⟨Hf7, s7, z3.trans z7, e2⟩
    | br =>
      have e2 : some (Fl.nx, Γ4) = some (fl, Γ') := e2
      cases e2
      exact fun σ7 Hf7 H7 s7 z7 => q σ7 Hf7 H7 s7 ((x1.f.trans z3).trans z7)
    | rt d =>
      have e2 : some (Fl.rt d, Γ4) = some (fl, Γ') := e2
      cases e2
      exact fun v σ7 Hf7 H7 s7 z7 r7 => q v σ7 Hf7 H7 s7 ((x1.f.trans z3).trans z7) r7
  · left
    have hi' : i = ds.length := by omega
    subst hi'
    rw [List.drop_length, forL] at e2
    cases e2
    exact ⟨(ok σ2 _ Hf2 H2 s2 z2).2, q σ2 Hf2 H2 s2 (x1.f.trans z2)⟩
theorem s_while (hp : PassesOwn (model X.prog X.w) X.A X.env X.xe) (hc : PT X c (tX K bs t)) (hb : PSs X sts (tS K bs fr u1)) : PS X (.While c sts [] pos) (tS K bs fr (sWhile t u1)) := (ps_while hp hc hb).wk fun D σ H ⟨Hf, Γ, fl, Γ', s, e, q⟩ => by
  obtain ⟨n0, e⟩ := sWhile_some e
  refine ⟨fun m σ H => ∃ Hf2 Γ2, StR K bs Hf2 H σ Γ2 ∧ Same Hf Hf2 ∧ whileL t u1 m Γ2 = some (fl, Γ'), ⟨n0, Hf, Γ, s, Same.refl _, e⟩, ?_⟩
  rintro m σ2 H2 ⟨Hf2, Γ2, s2, z2, e2⟩
  cases m with
  | zero => cases e2
  | succ m =>
    rw [whileL, Option.bind_eq_some_iff] at e2
    obtain ⟨⟨c', Γ3⟩, e3, e2⟩ := e2
    refine ⟨Hf2, Γ2, c', Γ3, s2, e3, fun Hf3 H3 s3 x3 => ?_⟩
    have z3 := z2.trans x3.f
    cases c' with
    | false =>
      have e2 : some (Fl.nx, Γ3) = some (fl, Γ') := e2
      cases e2
      exact iteF (q σ2 Hf3 H3 s3 z3)
    | true =>
      refine iteT ?_
      have e2 : (u1 Γ3).bind _ = some (fl, Γ') := e2
      rw [Option.bind_eq_some_iff] at e2
      obtain ⟨⟨fl4, Γ4⟩, e4, e2⟩ := e2
      refine ⟨fun σ5 H5 => ∃ Hf5, StR K bs Hf5 H5 σ5 Γ4 ∧ Same Hf Hf5 ∧ whileL t u1 m Γ4 = some (fl, Γ'), fun σ5 H5 ⟨Hf5, s5, z5, e5⟩ => ⟨m, Nat.lt_succ_self _, Hf5, Γ4, s5, z5, e5⟩, Hf3, Γ3, fl4, Γ4, s3, e4, ?_⟩
      cases fl4 with
      | nx => exact fun σ7 Hf7 H7 s7 z7 => ⟨Hf7, s7, z3.trans z7, e2⟩
      | ct => exact fun σ7 Hf7 H7 s7 z7 => ⟨Hf7, s7, z3.trans z7, e2⟩
      | br =>
        have e2 : some (Fl.nx, Γ4) = some (fl, Γ') := e2
        cases e2
        exact fun σ7 Hf7 H7 s7 z7 => q σ7 Hf7 H7 s7 (z3.trans z7)
      | rt d =>
        have e2 : some (Fl.rt d, Γ4) = some (fl, Γ') := e2
        cases e2
        exact fun v σ7 Hf7 H7 s7 z7 r7 => q v σ7 Hf7 H7 s7 (z3.trans z7) r7
/-! ### what is walked -/
def seqD : D → Option (List D)
  | .lst ds => some ds
  | .tup ds => some ds
  | _ => none
def iSeq (f : Ex) : Exs := fun Γ => (f Γ).bind fun p => (seqD p.1).map fun ds => (ds, p.2)
def rngL (lo : Int) (n : Nat) : List D := (List.range n).map fun k => .int (lo + (k : Nat))
def iRg1 (f : Oxs) : Exs := fun Γ => (f Γ).bind fun p => (ovs p.2 p.1).bind fun ds => match ds with
  | [.int j] => if -1000000000 ≤ j ∧ j ≤ 1000000000 then some (rngL 0 j.toNat, p.2) else none
  | _ => none
def iRg2 (f : Oxs) : Exs := fun Γ => (f Γ).bind fun p => (ovs p.2 p.1).bind fun ds => match ds with
  | [.int i, .int j] => if (-1000000000 ≤ i ∧ i ≤ 1000000000) ∧ (-1000000000 ≤ j ∧ j ≤ 1000000000) then some (rngL i (j - i).toNat, p.2) else none
  | _ => none
theorem _root_.L2.PI.wk {X : Cx} {tg e : Expr} {t t' : TI} (h : PI X tg e t) (w : ∀ σ H Q, t' σ H Q → t σ H Q) : PI X tg e t' := ⟨fun pins s σ H Q I q => h.run pins s σ H Q I (w σ H Q q)⟩
theorem rngL_get {lo : Int} {n i : Nat} {d : D} (h : (rngL lo n)[i]? = some d) : i < n ∧ d = .int (lo + i) := by
  unfold rngL at h
  rw [List.getElem?_map] at h
  cases e : (List.range n)[i]? with
  | none => rw [e] at h; cases h
  | some k =>
    rw [e] at h
    obtain ⟨h1, h2⟩ := List.getElem?_eq_some_iff.mp e
    rw [List.getElem_range] at h2
    rw [List.length_range] at h1
    subst h2
    exact ⟨h1, (Option.some.inj h).symm⟩
theorem okRange {lo : Int} {n : Nat} {Hf : Hp} : ItOk K bs (Itr lo n) Hf (rngL lo n) := fun σ Γ Hf' H' s z => by
  refine ⟨fun i d h => ?_, ?_⟩
  · obtain ⟨h1, rfl⟩ := rngL_get h
    refine ⟨h1, fun x H3 y => ?_⟩
    obtain ⟨e, y⟩ := y
    subst e y
    exact ⟨Hf', s, Ext.refl, .int _⟩
  · show n ≤ (rngL lo n).length
    unfold rngL
    rw [List.length_map, List.length_range]
    exact Nat.le_refl _
theorem okTup {a : Addr} {xs : List V} {ds : List D} {Hf : Hp} (h : SqT K.f Hf a xs) (r : RepAll K Hf xs ds) : ItOk K bs (Itt K.f a) Hf ds := fun σ Γ Hf' H' s z => by
  have hq : SqT K.f H' a xs := sqT_mono s.fz (sqT_mono z h)
  refine ⟨fun i d hd => ?_, ⟨xs, hq, Nat.le_of_eq r.len⟩⟩
  obtain ⟨v, hv, rv⟩ := r.getD hd
  refine ⟨⟨xs, v, hq, hv⟩, fun x H3 y => ?_⟩
  obtain ⟨e, y⟩ := y
  subst e
  have := y xs hq
  rw [hv] at this
  cases this
  exact ⟨Hf', s, Ext.refl, rv.mono z⟩
theorem okLst {a : Addr} {xs : List V} {ds : List D} {Hf : Hp} (h : Hf a = some (.lst xs)) (r : RepAll K Hf xs ds) : ItOk K bs (Itl K.f a) Hf ds := fun σ Γ Hf' H' s z => by
  have hq : SqL K.f H' a xs := SqL.of (s.fz _ _ (z _ _ h))
  refine ⟨fun i d hd => ?_, ⟨xs, hq, Nat.le_of_eq r.len⟩⟩
  obtain ⟨v, hv, rv⟩ := r.getD hd
  refine ⟨⟨xs, v, hq, hv⟩, fun x H3 y => ?_⟩
  obtain ⟨e, y⟩ := y
  subst e
  have := y xs hq
  rw [hv] at this
  cases this
  exact ⟨Hf', s, Ext.refl, rv.mono z⟩
theorem PI_or {t1 t2 : TI} (h1 : PI X tg it t1) (h2 : PI X tg it t2) : PI X tg it (fun σ H R => t1 σ H R ∨ t2 σ H R) := ⟨fun pins s σ H R I q => q.elim (h1.run pins s σ H R I) (h2.run pins s σ H R I)⟩
theorem i_seq (h : PE X it (tZ X.kw bs f)) : PI X tg it (tI X.kw bs (iSeq f)) := (PI_or (pi_list h) (pi_tup h)).wk fun σ H R ⟨Hf, Γ, ds, Γ', s, e, q⟩ => by
  unfold iSeq at e
  rw [Option.bind_eq_some_iff] at e
  obtain ⟨⟨d, Γ1⟩, e1, e2⟩ := e
  rw [Option.map_eq_some_iff] at e2
  obtain ⟨ds', e2, e3⟩ := e2
  cases e3
  cases d with
  | lst l =>
    cases e2
    refine .inl ⟨Hf, Γ, _, _, s, e1, fun v Hf1 H1 s1 x1 r1 => ?_⟩
    cases r1 with
    | lst h hs => exact ⟨_, rfl, ⟨_, SqL.of (s1.fz _ _ h)⟩, q _ _ _ s1 x1 (okLst h hs)⟩
  | tup l =>
    cases e2
    refine .inr ⟨Hf, Γ, _, _, s, e1, fun v Hf1 H1 s1 x1 r1 => ?_⟩
    cases r1 with
    | tup h hs => exact ⟨_, rfl, ⟨_, sqT_mono s1.fz h⟩, q _ _ _ s1 x1 (okTup h hs)⟩
  | _ => cases e2
theorem i_rg1 {p : Pos} (hg : Gl X "range") (hm : X.mg "range" = none) (ha : PA X [a] (tOs K bs os)) (hs : starEach [a] X.env = [(false, eval a X.env)] := by rfl) : PI X tg (.Call (.Name "range" p) [a] [] pos) (tI K bs (iRg1 os)) := (pi_range1 hg hm ha hs).wk fun σ H R ⟨Hf, Γ, ds, Γ', s, e, q⟩ => by
  unfold iRg1 at e
  rw [Option.bind_eq_some_iff] at e
  obtain ⟨⟨o1, Γ1⟩, e1, e⟩ := e
  rw [Option.bind_eq_some_iff] at e
  obtain ⟨l, e2, e⟩ := e
  split at e
  · split at e
    · rename_i hj
      cases e
      refine ⟨Hf, Γ, o1, _, s, e1, fun vs Hf1 H1 s1 x1 r1 => ?_⟩
      obtain ⟨v, rfl, rv⟩ := rds1 (ovRds s1 r1 e2)
      exact ⟨_, by rw [rd_int rv], by omega, by omega, q _ _ _ s1 x1 okRange⟩
    · cases e
  · cases e
theorem i_rg2 {p : Pos} (hg : Gl X "range") (hm : X.mg "range" = none) (ha : PA X [a, b] (tOs K bs os)) (hs : starEach [a, b] X.env = [(false, eval a X.env), (false, eval b X.env)] := by rfl) (hs2 : starEach [b] X.env = [(false, eval b X.env)] := by rfl) : PI X tg (.Call (.Name "range" p) [a, b] [] pos) (tI K bs (iRg2 os)) := (pi_range2 hg hm ha hs hs2).wk fun σ H R ⟨Hf, Γ, ds, Γ', s, e, q⟩ => by
  unfold iRg2 at e
  rw [Option.bind_eq_some_iff] at e
  obtain ⟨⟨o1, Γ1⟩, e1, e⟩ := e
  rw [Option.bind_eq_some_iff] at e
  obtain ⟨l, e2, e⟩ := e
  split at e
  · split at e
    · rename_i hj
      cases e
      refine ⟨Hf, Γ, o1, _, s, e1, fun vs Hf1 H1 s1 x1 r1 => ?_⟩
      obtain ⟨v, w, rfl, rv, rw_⟩ := rds2 (ovRds s1 r1 e2)
      exact ⟨_, _, by rw [rd_int rv, rd_int rw_], ⟨by omega, by omega, by omega, by omega⟩, q _ _ _ s1 x1 okRange⟩
    · cases e
  · cases e
end
end Zd

set_option maxHeartbeats 4000000
/-! Owned lists change; comprehensions. -/
namespace Zd
open PySem PySem.Spec PyProof.Rows L2 Pd
def muD (Γ : Gm) (i : Nat) : Option D := match Γ[i]? with
  | some (.own d) => some d
  | some (.byr d) => some d
  | _ => none
def putS (Γ : Gm) (i : Nat) (d : D) : Gm := match Γ[i]? with
  | some (.own _) => Γ.set i (.own d)
  | some (.byr _) => Γ.set i (.byr d)
  | _ => Γ
def lstOf : D → Option (List D)
  | .lst ds => some ds
  | _ => none
theorem lstOf_some {d : D} {ds : List D} (e : lstOf d = some ds) : d = .lst ds := by
  cases d with
  | lst l => exact congrArg D.lst (Option.some.inj e)
  | _ => cases e
def muL (Γ : Gm) (i : Nat) : Option (List D) := (muD Γ i).bind lstOf
def eApp (i : Nat) (f : Ex) : Ex := fun Γ => (muL Γ i).bind fun _ => (f Γ).bind fun p => (muL p.2 i).bind fun ds => if ds.length < 10000000 then some (.non, putS p.2 i (.lst (ds ++ [p.1]))) else none
def eExt (i : Nat) (f : Ox) : Ex := fun Γ => (muL Γ i).bind fun _ => (f Γ).bind fun p => (muL p.2 i).bind fun ds => (p.1.get p.2).bind fun e => (lstOf e).bind fun es => if ds.length + es.length ≤ 10000000 then some (.non, putS p.2 i (.lst (ds ++ es))) else none
def ePop (i : Nat) : Ex := fun Γ => (muL Γ i).bind fun ds => (ds[ds.length - 1]?).map fun d => (d, putS Γ i (.lst ds.dropLast))
def ePopAt (i : Nat) (f : Ox) : Ex := fun Γ => (muL Γ i).bind fun _ => (f Γ).bind fun p => (muL p.2 i).bind fun ds => (p.1.get p.2).bind fun k => (toI k).bind fun k => if -1000000000 ≤ k ∧ k ≤ 1000000000 then (seqIndex? k ds.length).bind fun j => (ds[j]?).map fun d => (d, putS p.2 i (.lst (ds.eraseIdx j))) else none
def sSetIx (i : Nat) (f : Ex) (fo : Ox) : Sx := fun Γ => (f Γ).bind fun p => (muL p.2 i).bind fun _ => (fo p.2).bind fun q => (q.1.get q.2).bind fun k => (toI k).bind fun k => (muL q.2 i).bind fun ds => (ixN ds.length k).map fun j => (.nx, putS q.2 i (.lst (ds.set j p.1)))
section
variable {K : KW} {b : Bs} {Hf H : Hp} {σ : L2.St} {Γ : Gm} {i : Nat}
theorem contL {a : Addr} {xs : List V} {ds : List D} (e : H a = some (.lst xs)) (r : RepAll K Hf xs ds) : Cont K Hf H a (.lst ds) := ⟨xs, e, r⟩
theorem muD_mu {d : D} (e : muD Γ i = some d) : mu Γ i ∧ Γ[i]?.bind Sl.get = some d := by
  unfold muD at e
  split at e
  · rename_i h; cases e; exact ⟨⟨_, .inl h⟩, by rw [h]; rfl⟩
  · rename_i h; cases e; exact ⟨⟨_, .inr h⟩, by rw [h]; rfl⟩
  · cases e
theorem muL_at {ds : List D} (s : StR K b Hf H σ Γ) (e : muL Γ i = some ds) : ∃ a xs, σ[i]? = some (some (.ref a)) ∧ H a = some (.lst xs) ∧ RepAll K Hf xs ds ∧ muD Γ i = some (.lst ds) := by
  unfold muL at e
  rw [Option.bind_eq_some_iff] at e
  obtain ⟨d, e1, e2⟩ := e
  have := lstOf_some e2
  subst this
  obtain ⟨m, g⟩ := muD_mu e1
  obtain ⟨a, d, h1, h2, h3, h4, _⟩ := s.muAt m
  rw [g] at h2
  cases h2
  obtain ⟨xs, h5, h6⟩ := h4
  exact ⟨a, xs, h1, h5, h6, e1⟩
theorem mu_put {d : D} {j : Nat} : mu (putS Γ i d) j ↔ mu Γ j := by
  unfold putS
  split
  · rename_i h
    by_cases hj : j = i
    · subst hj
      have hl := (List.getElem?_eq_some_iff.mp h).1
      exact ⟨fun _ => ⟨_, .inl h⟩, fun _ => ⟨d, .inl (List.getElem?_set_self hl)⟩⟩
    · unfold mu
      rw [List.getElem?_set_ne (Ne.symm hj)]
  · rename_i h
    by_cases hj : j = i
    · subst hj
      have hl := (List.getElem?_eq_some_iff.mp h).1
      exact ⟨fun _ => ⟨_, .inr h⟩, fun _ => ⟨d, .inr (List.getElem?_set_self hl)⟩⟩
    · unfold mu
      rw [List.getElem?_set_ne (Ne.symm hj)]
  · exact Iff.rfl
theorem putS_len {d : D} : (putS Γ i d).length = Γ.length := by
  unfold putS
  split
  · exact List.length_set ..
  · exact List.length_set ..
  · rfl
theorem StR.put {a : Addr} {d d' : D} {o : HO} (s : StR K b Hf H σ Γ) (e : muD Γ i = some d) (ha : σ[i]? = some (some (.ref a))) (c : Cont K Hf (upd H a o) a d') :
    StR K b Hf (upd H a o) σ (putS Γ i d') ∧ Ext σ Γ (putS Γ i d') Hf H Hf (upd H a o) := by
  obtain ⟨m, _⟩ := muD_mu e
  obtain ⟨a', d0, h1, h2, h3, h4, o0, h5⟩ := s.muAt m
  rw [ha] at h1
  cases h1
  have oth : ∀ x o', H x = some o' → ∃ o2, upd H a o x = some o2 := fun x o' q => by
    by_cases hx : x = a
    · subst hx; exact ⟨o, upd_same⟩
    · exact ⟨o', by rw [upd_ne hx]; exact q⟩
  refine ⟨⟨s.len.trans putS_len.symm, fun j w g e1 e2 => ?_, fun j l x m1 m2 => s.inj j l x (mu_put.mp m1) (mu_put.mp m2), fun x w q => ?_, s.f0, s.fresh, fun x w q => ?_, fun x w q hr => ?_⟩, Same.refl _, fun x w q hn => ?_, fun x w q => .inl q, oth, fun j m => mu_put.mp m⟩
  · by_cases hj : j = i
    · subst hj
      rw [ha] at e1
      cases e1
      unfold muD at e
      unfold putS at e2
      split at e
      · rename_i hg
        rw [hg] at e2
        have e2 : (Γ.set j (.own d'))[j]? = some g := e2
        rw [List.getElem?_set_self (List.getElem?_eq_some_iff.mp hg).1] at e2
        cases e2
        cases s.sl j _ _ ha hg with
        | own n1 c1 hb => exact .own h3 c hb
      · rename_i hg
        rw [hg] at e2
        have e2 : (Γ.set j (.byr d'))[j]? = some g := e2
        rw [List.getElem?_set_self (List.getElem?_eq_some_iff.mp hg).1] at e2
        cases e2
        cases s.sl j _ _ ha hg with
        | byr n1 c1 hb => exact .byr h3 c hb
      · cases e
    · have e3 : Γ[j]? = some g := by
        unfold putS at e2
        split at e2
        · rwa [List.getElem?_set_ne (Ne.symm hj)] at e2
        · rwa [List.getElem?_set_ne (Ne.symm hj)] at e2
        · exact e2
      cases s.sl j w g e1 e3 with
      | no => exact .no
      | fn r => exact .fn r
      | val r => exact .val r
      | own n1 c1 hb =>
        rename_i x _
        have hx : x ≠ a := fun z => hj (s.inj j i a ⟨_, .inl e3⟩ m (by rw [← z]; exact e1) ha)
        exact .own n1 (c1.mono (Same.refl _) (upd_ne hx)) hb
      | byr n1 c1 hb =>
        rename_i x _
        have hx : x ≠ a := fun z => hj (s.inj j i a ⟨_, .inr e3⟩ m (by rw [← z]; exact e1) ha)
        exact .byr n1 (c1.mono (Same.refl _) (upd_ne hx)) hb
  · rw [upd_ne (fun z => by rw [z, h3] at q; cases q)]
    exact s.fz x w q
  · obtain ⟨o', q'⟩ := s.dom x w q
    exact oth x o' q'
  · have hx : x ≠ a := fun z => by
      subst z
      unfold muD at e
      split at e
      · rename_i hg
        cases s.sl i _ _ ha hg with
        | own n1 c1 hb => rw [q] at hb; cases hb
      · rename_i hg
        cases s.sl i _ _ ha hg with
        | byr n1 c1 hb => exact hr i hb
      · cases e
    rw [upd_ne hx]
    exact s.fr x w q hr
  · rw [upd_ne (fun z => hn i m (by rw [z]; exact ha))]
    exact q
theorem muL_some {ds : List D} (e : muD Γ i = some (.lst ds)) : muL Γ i = some ds := by
  unfold muL
  rw [e]
  rfl
end
section
variable {X : Cx} {K : KW} {bs : Bs} {fr : Md} {a b c e o tg it : Expr} {es rest : List Expr} {pos p2 apos cpos : Pos} {f g h : Ex} {fo go ho : Ox} {fs : Exs} {os : Oxs} {x : Str} {i : Nat} {t u : Tx} {st : Stmt} {sts : List Stmt} {u1 u2 : Sx} {is js : List Nat} {gt : Tg} {gs : Tgs}
theorem szL' {n : Nat} (h : n < 10000000) : n < sizeLine := Nat.lt_of_lt_of_le h (by rw [sizeLine_eq]; decide)
theorem z_app (ho : PE X o (tVar i)) (ha : PE X e (tZ X.kw bs f)) (hbase : attributeBase o "append" X.env (eval o X.env) = eval o X.env := by rfl)
    (hfew : ((backTo cpos (starEach [e] X.env)).all (fun x => !x.1) && (backToKw cpos (keywordEach [] X.env)).all (fun x => x.1.isSome)
      && decide ([e].length + ([] : List Keyword).length + (if ([] : List Keyword).isEmpty then 0 else 1) < 30)) = true := by rfl)
    (hline : (apos.endLine == cpos.line) = true := by rfl) (hs : starEach [e] X.env = (false, eval e X.env) :: starEach [] X.env := by rfl) (hplain : (backTo cpos (starEach [] X.env)).any (·.1) = false := by rfl) :
    PE X (.Call (.Attribute o "append" apos) [e] [] cpos) (tZ X.kw bs (eApp i f)) := (pe_bm PySem.F.plainAttrs_list PySem.F.slot_list_append PySem.F.type_list_append mt_append ho (pa_cons ha pa_nil hs) hbase hfew hline hs hplain).wk fun σ H Q hq => by
  obtain ⟨Hf, Γ, d, Γ', st, e, q⟩ := hq
  unfold eApp at e
  rw [Option.bind_eq_some_iff] at e
  obtain ⟨ds0, e0, e⟩ := e
  rw [Option.bind_eq_some_iff] at e
  obtain ⟨⟨d1, Γ1⟩, e1, e⟩ := e
  rw [Option.bind_eq_some_iff] at e
  obtain ⟨ds, e2, e⟩ := e
  split at e
  · rename_i hl
    cases e
    obtain ⟨a, xs0, h1, h2, h3, _⟩ := muL_at st e0
    refine ⟨.ref a, h1, .inl ⟨rfl, _, SqL.of h2⟩, Hf, Γ, d1, Γ1, st, e1, fun v Hf1 H1 s1 x1 r1 => ?_⟩
    obtain ⟨a', xs, h1', h4, h5, h6⟩ := muL_at s1 e2
    rw [h1] at h1'
    cases h1'
    obtain ⟨s2, x2⟩ := s1.put (o := .lst (xs ++ [v])) h6 h1 (contL upd_same (h5.append (.cons r1 .nil)))
    exact ⟨a, xs, v, rfl, rfl, h4, szL' (by rw [h5.len]; exact hl), q _ _ _ s2 (x1.trans x2) .non⟩
  · cases e
theorem z_ext (ho : PE X o (tVar i)) (ha : PE X e (tO X.kw bs fo)) (hbase : attributeBase o "extend" X.env (eval o X.env) = eval o X.env := by rfl)
    (hfew : ((backTo cpos (starEach [e] X.env)).all (fun x => !x.1) && (backToKw cpos (keywordEach [] X.env)).all (fun x => x.1.isSome)
      && decide ([e].length + ([] : List Keyword).length + (if ([] : List Keyword).isEmpty then 0 else 1) < 30)) = true := by rfl)
    (hline : (apos.endLine == cpos.line) = true := by rfl) (hs : starEach [e] X.env = (false, eval e X.env) :: starEach [] X.env := by rfl) (hplain : (backTo cpos (starEach [] X.env)).any (·.1) = false := by rfl) :
    PE X (.Call (.Attribute o "extend" apos) [e] [] cpos) (tZ X.kw bs (eExt i fo)) := (pe_bm PySem.F.plainAttrs_list PySem.F.slot_list_extend PySem.F.type_list_extend mt_extend ho (pa_cons ha pa_nil hs) hbase hfew hline hs hplain).wk fun σ H Q hq => by
  obtain ⟨Hf, Γ, d, Γ', st, e, q⟩ := hq
  unfold eExt at e
  rw [Option.bind_eq_some_iff] at e
  obtain ⟨ds0, e0, e⟩ := e
  rw [Option.bind_eq_some_iff] at e
  obtain ⟨⟨d1, Γ1⟩, e1, e⟩ := e
  rw [Option.bind_eq_some_iff] at e
  obtain ⟨ds, e2, e⟩ := e
  rw [Option.bind_eq_some_iff] at e
  obtain ⟨dz, e3, e⟩ := e
  rw [Option.bind_eq_some_iff] at e
  obtain ⟨zs, e4, e⟩ := e
  split at e
  · rename_i hl
    cases e
    obtain ⟨a, xs0, h1, h2, h3, _⟩ := muL_at st e0
    refine ⟨.ref a, h1, .inl ⟨rfl, _, SqL.of h2⟩, Hf, Γ, d1, Γ1, st, e1, fun v Hf1 H1 s1 x1 r1 => ?_⟩
    obtain ⟨a', xs, h1', h4, h5, h6⟩ := muL_at s1 e2
    rw [h1] at h1'
    cases h1'
    have rd := ovRd s1 r1 e3
    rw [lstOf_some e4] at rd
    obtain ⟨c, ws, rfl, h7, h8⟩ := rd_lst s1.fz rd
    obtain ⟨s2, x2⟩ := s1.put (o := .lst (xs ++ ws)) h6 h1 (contL upd_same (h5.append h8))
    exact ⟨a, c, xs, ws, rfl, rfl, h4, h7, szL (by rw [h5.len, h8.len]; exact hl), q _ _ _ s2 (x1.trans x2) .non⟩
  · cases e
theorem lastD {K : KW} {H : Hp} {xs : List V} {ds : List D} {d : D} (r : RepAll K H xs ds) (h : ds[ds.length - 1]? = some d) : ∃ v, xs[xs.length - 1]? = some v ∧ Rep K H v d := by
  rw [r.len]
  exact r.getD h
theorem z_pop (ho : PE X o (tVar i)) (hbase : attributeBase o "pop" X.env (eval o X.env) = eval o X.env := by rfl) (hline : (apos.endLine == cpos.line) = true := by rfl) :
    PE X (.Call (.Attribute o "pop" apos) [] [] cpos) (tZ X.kw bs (ePop i)) := (pe_bm0 PySem.F.plainAttrs_list PySem.F.slot_list_pop PySem.F.type_list_pop mt_pop ho hbase hline).wk fun σ H Q hq => by
  obtain ⟨Hf, Γ, d, Γ', st, e, q⟩ := hq
  unfold ePop at e
  rw [Option.bind_eq_some_iff] at e
  obtain ⟨ds, e0, e⟩ := e
  rw [Option.map_eq_some_iff] at e
  obtain ⟨d', e1, e⟩ := e
  cases e
  obtain ⟨a, xs, h1, h2, h3, h6⟩ := muL_at st e0
  obtain ⟨v, e2, r⟩ := lastD h3 e1
  obtain ⟨s2, x2⟩ := st.put (o := .lst xs.dropLast) h6 h1 (contL upd_same (h3.dropLast))
  exact ⟨.ref a, h1, .inl ⟨rfl, _, SqL.of h2⟩, a, xs, v, rfl, rfl, h2, e2, q _ _ _ s2 x2 r⟩
theorem z_popAt (ho : PE X o (tVar i)) (ha : PE X e (tO X.kw bs fo)) (hbase : attributeBase o "pop" X.env (eval o X.env) = eval o X.env := by rfl)
    (hfew : ((backTo cpos (starEach [e] X.env)).all (fun x => !x.1) && (backToKw cpos (keywordEach [] X.env)).all (fun x => x.1.isSome)
      && decide ([e].length + ([] : List Keyword).length + (if ([] : List Keyword).isEmpty then 0 else 1) < 30)) = true := by rfl)
    (hline : (apos.endLine == cpos.line) = true := by rfl) (hs : starEach [e] X.env = (false, eval e X.env) :: starEach [] X.env := by rfl) (hplain : (backTo cpos (starEach [] X.env)).any (·.1) = false := by rfl) :
    PE X (.Call (.Attribute o "pop" apos) [e] [] cpos) (tZ X.kw bs (ePopAt i fo)) := (pe_bm PySem.F.plainAttrs_list PySem.F.slot_list_pop PySem.F.type_list_pop mt_popAt ho (pa_cons ha pa_nil hs) hbase hfew hline hs hplain).wk fun σ H Q hq => by
  obtain ⟨Hf, Γ, d, Γ', st, e, q⟩ := hq
  unfold ePopAt at e
  rw [Option.bind_eq_some_iff] at e
  obtain ⟨ds0, e0, e⟩ := e
  rw [Option.bind_eq_some_iff] at e
  obtain ⟨⟨d1, Γ1⟩, e1, e⟩ := e
  rw [Option.bind_eq_some_iff] at e
  obtain ⟨ds, e2, e⟩ := e
  rw [Option.bind_eq_some_iff] at e
  obtain ⟨dk, e3, e⟩ := e
  rw [Option.bind_eq_some_iff] at e
  obtain ⟨k, e4, e⟩ := e
  split at e
  · rename_i hk
    rw [Option.bind_eq_some_iff] at e
    obtain ⟨j, e5, e⟩ := e
    rw [Option.map_eq_some_iff] at e
    obtain ⟨dd, e6, e⟩ := e
    cases e
    obtain ⟨a, xs0, h1, h2, h3, _⟩ := muL_at st e0
    refine ⟨.ref a, h1, .inl ⟨rfl, _, SqL.of h2⟩, Hf, Γ, d1, Γ1, st, e1, fun v Hf1 H1 s1 x1 r1 => ?_⟩
    obtain ⟨a', xs, h1', h4, h5, h6⟩ := muL_at s1 e2
    rw [h1] at h1'
    cases h1'
    have rd := ovRd s1 r1 e3
    rw [toI_some e4] at rd
    obtain ⟨w, e7, r7⟩ := h5.getD e6
    obtain ⟨s2, x2⟩ := s1.put (o := .lst (xs.eraseIdx j)) h6 h1 (contL upd_same (h5.erase j))
    exact ⟨a, xs, k, j, w, rfl, by rw [rd_int rd], h4, by omega, by omega, by rw [h5.len]; exact e5, e7, q _ _ _ s2 (x1.trans x2) r7⟩
  · cases e
theorem s_setIx (he : PE X e (tZ X.kw bs f)) (ho : PE X o (tVar i)) (hi : PE X c (tO X.kw bs fo))
    (ha : ∀ v, assign (.Subscript o c p2) X.env v = (do
      let ov ← holding [v] (eval o X.env)
      let iv ← holding [v, ov] (eval c X.env)
      standAt p2
      holding [v, ov, iv] (setItem ov iv v)
      release [v, ov, iv] []) := by intro _; rfl)
    (hs : swapsWithSole [.Subscript o c p2] e pos.line X.env = pure false := by rfl) (hw : swappedStores [.Subscript o c p2] e X.env = pure none := by rfl) (h1 : (assignEach [.Subscript o c p2] X.env).map (·.2) = [assign (.Subscript o c p2) X.env] := by rfl) :
    PS X (.Assign [.Subscript o c p2] e pos) (tS X.kw bs fr (sSetIx i f fo)) := (ps_asg he (pg_sub ho hi set_list ha) hs hw h1).wk fun D σ H ⟨Hf, Γ, fl, Γ', st, e, q⟩ => by
  unfold sSetIx at e
  rw [Option.bind_eq_some_iff] at e
  obtain ⟨⟨d1, Γ1⟩, e1, e⟩ := e
  rw [Option.bind_eq_some_iff] at e
  obtain ⟨ds0, e0, e⟩ := e
  rw [Option.bind_eq_some_iff] at e
  obtain ⟨⟨o2, Γ2⟩, e2, e⟩ := e
  rw [Option.bind_eq_some_iff] at e
  obtain ⟨dk, e3, e⟩ := e
  rw [Option.bind_eq_some_iff] at e
  obtain ⟨k, e4, e⟩ := e
  rw [Option.bind_eq_some_iff] at e
  obtain ⟨ds, e5, e⟩ := e
  rw [Option.map_eq_some_iff] at e
  obtain ⟨j, e6, e⟩ := e
  cases e
  refine ⟨Hf, Γ, d1, Γ1, st, e1, fun v Hf1 H1 s1 x1 r1 => ?_⟩
  obtain ⟨a, xs0, h1, h2, h3, _⟩ := muL_at s1 e0
  refine ⟨.ref a, h1, Hf1, Γ1, o2, Γ2, s1, e2, fun w Hf2 H2 s2 x2 r2 => ?_⟩
  obtain ⟨a', xs, h1', h4, h5, h6⟩ := muL_at s2 e5
  rw [h1] at h1'
  cases h1'
  have rd := ovRd s2 r2 e3
  rw [toI_some e4] at rd
  obtain ⟨s3, x3⟩ := s2.put (o := .lst (xs.set j v)) h6 h1 (contL upd_same (h5.set (r1.mono x2.f) j))
  exact ⟨a, xs, k, j, rfl, rd_int rd, h4, by rw [h5.len]; exact e6, q _ _ _ s3 ((x1.f.trans x2.f).trans x3.f)⟩
end
end Zd

set_option maxHeartbeats 4000000
/-! Comprehensions. -/
namespace Zd
open PySem PySem.Spec PyProof.Rows L2 Pd
def wip : List Nat → Gm → Gm
  | [], Γ => Γ
  | v :: vs, Γ => (wip vs Γ).set v .no
def rst : List Nat → Gm → Gm → Gm
  | [], _, Γ => Γ
  | v :: vs, Γ1, Γ => (rst vs Γ1 Γ).set v ((Γ1[v]?).getD .no)
def lcL (g : Tg) (t : Tx) (f : Ex) (is : List Nat) : List D → Gm → Option (List D × Gm)
  | [], Γ => some ([], Γ)
  | d :: ds, Γ => (g d Γ).bind fun Γ1 => (t Γ1).bind fun c => if c.1 = true then (f c.2).bind fun p => (lcL g t f is ds (wip is p.2)).map fun r => (p.1 :: r.1, r.2) else lcL g t f is ds (wip is c.2)
def eLc (it : Exs) (g : Tg) (t : Tx) (f : Ex) (is : List Nat) : Ex := fun Γ => (it Γ).bind fun p => if p.1.length ≤ 10000000 then (lcL g t f is p.1 (wip is p.2)).map fun r => (.lst r.1, rst is p.2 r.2) else none
def xYes : Tx := fun Γ => some (true, Γ)
section
variable {K : KW} {b : Bs} {Hf H Hf' H' Hf1 H1 : Hp} {σ σ' : L2.St} {Γ Γ' Γ1 Γ2 Γ3 : Gm} {is : List Nat}
theorem wip_len : ∀ (is : List Nat) (Γ : Gm), (wip is Γ).length = Γ.length
  | [], _ => rfl
  | v :: vs, Γ => by rw [wip, List.length_set, wip_len vs Γ]
theorem StR.wip (s : StR K b Hf H σ Γ) : ∀ is : List Nat, StR K b Hf H (wipe σ is) (wip is Γ)
  | [] => s
  | v :: vs => by
    unfold wipe Zd.wip
    exact (StR.wip s vs).setN
theorem wip_mu : ∀ {is : List Nat} {j : Nat}, mu (wip is Γ) j → j ∉ is ∧ mu Γ j
  | [], j, m => ⟨by simp, m⟩
  | v :: vs, j, m => by
    unfold wip at m
    have hj : j ≠ v := fun hj => by
      subst hj
      obtain ⟨d, e⟩ := m
      by_cases h2 : j < (wip vs Γ).length
      · rw [List.getElem?_set_self h2] at e; rcases e with e | e <;> cases e
      · rw [List.getElem?_eq_none (by rw [List.length_set]; omega)] at e; rcases e with e | e <;> cases e
    obtain ⟨h1, h2⟩ := wip_mu (mu_set m hj)
    exact ⟨by rw [List.mem_cons, not_or]; exact ⟨hj, h1⟩, h2⟩
theorem wipe_at {j : Nat} (h : j ∉ is) : (wipe σ is)[j]? = σ[j]? := wipe_out h
theorem wipe_in : ∀ {is : List Nat} {j : Nat}, j ∈ is → j < σ.length → (wipe σ is)[j]? = some none
  | v :: vs, j, h, hl => by
    unfold wipe
    by_cases hj : j = v
    · subst hj
      rw [List.getElem?_set_self (by rw [wipe_length]; exact hl)]
    · rw [List.getElem?_set_ne (Ne.symm hj)]
      exact wipe_in ((List.mem_cons.mp h).resolve_left hj) hl
theorem wipe_eq (hl : σ'.length = σ.length) (h : ∀ j, j ∉ is → σ'[j]? = σ[j]?) : wipe σ' is = wipe σ is := by
  apply List.ext_getElem?
  intro j
  by_cases hj : j ∈ is
  · by_cases h2 : j < σ.length
    · rw [wipe_in hj h2, wipe_in hj (by omega)]
    · rw [List.getElem?_eq_none (by rw [wipe_length]; omega), List.getElem?_eq_none (by rw [wipe_length]; omega)]
  · rw [wipe_at hj, wipe_at hj, h j hj]
theorem rst_len : ∀ (is : List Nat) (Γ1 Γ : Gm), (rst is Γ1 Γ).length = Γ.length
  | [], _, _ => rfl
  | v :: vs, Γ1, Γ => by rw [rst, List.length_set, rst_len vs Γ1 Γ]
theorem rst_out : ∀ {is : List Nat} {j : Nat}, j ∉ is → (rst is Γ1 Γ)[j]? = Γ[j]?
  | [], _, _ => rfl
  | v :: vs, j, h => by
    rw [List.mem_cons, not_or] at h
    unfold rst
    rw [List.getElem?_set_ne (Ne.symm h.1)]
    exact rst_out h.2
theorem rst_in : ∀ {is : List Nat} {j : Nat}, j ∈ is → j < Γ.length → (rst is Γ1 Γ)[j]? = some ((Γ1[j]?).getD .no)
  | v :: vs, j, h, hl => by
    unfold rst
    by_cases hj : j = v
    · subst hj
      rw [List.getElem?_set_self (by rw [rst_len]; exact hl)]
    · rw [List.getElem?_set_ne (Ne.symm hj)]
      exact rst_in ((List.mem_cons.mp h).resolve_left hj) hl
/-- an object that nobody holds yet changes -/
theorem StR.pend {p : Addr} {o : HO} (s : StR K b Hf H σ Γ) (e : ∃ o, H p = some o) (n : Hf p = none) (hb : b.B p = none) (hm : ∀ j, mu Γ j → σ[j]? ≠ some (some (.ref p))) : StR K b Hf (upd H p o) σ Γ := by
  obtain ⟨o0, e⟩ := e
  refine ⟨s.len, fun i w g e1 e2 => ?_, s.inj, fun x w q => ?_, s.f0, s.fresh, fun x w q => ?_, fun x w q hr => ?_⟩
  · cases s.sl i w g e1 e2 with
    | no => exact .no
    | fn r => exact .fn r
    | val r => exact .val r
    | own n1 c1 h1 => exact .own n1 (c1.mono (Same.refl _) (upd_ne fun z => hm i ⟨_, .inl e2⟩ (by rw [← z]; exact e1))) h1
    | byr n1 c1 h1 => exact .byr n1 (c1.mono (Same.refl _) (upd_ne fun z => hm i ⟨_, .inr e2⟩ (by rw [← z]; exact e1))) h1
  · rw [upd_ne (fun z => by rw [z, n] at q; cases q)]
    exact s.fz x w q
  · rw [upd_ne (fun z => by rw [z, hb] at q; cases q)]
    exact s.dom x w q
  · rw [upd_ne (fun z => by rw [z, hb] at q; cases q)]
    exact s.fr x w q hr
theorem Ext.pend {p : Addr} {o : HO} (x : Ext σ Γ Γ' Hf H Hf' H') (n : H p = none) : Ext σ Γ Γ' Hf H Hf' (upd H' p o) := by
  refine ⟨x.f, fun a w q hn => ?_, x.n, fun a w q => ?_, x.k⟩
  · rw [upd_ne (ne_of_none q n)]; exact x.h a w q hn
  · rw [upd_ne (ne_of_none q n)]; exact x.dm a w q
/-- the same step seen with other slots -/
theorem Ext.re (x : Ext σ' Γ2 Γ3 Hf H Hf' H') (h : ∀ i, mu Γ2 i → mu Γ i ∧ σ'[i]? = σ[i]?) (k : ∀ i, mu Γ' i → mu Γ i) : Ext σ Γ Γ' Hf H Hf' H' :=
  ⟨x.f, fun a w q hn => x.h a w q fun i m => by rw [(h i m).2]; exact hn i (h i m).1, x.n, x.dm, k⟩
theorem StR.unwipe (s1 : StR K b Hf1 H1 σ Γ1) (x : Ext (wipe σ is) (Zd.wip is Γ1) Γ2 Hf1 H1 Hf' H') (s : StR K b Hf' H' (wipe σ is) Γ2) :
    StR K b Hf' H' σ (rst is Γ1 Γ2) ∧ Ext σ Γ1 (rst is Γ1 Γ2) Hf1 H1 Hf' H' := by
  have l2 : Γ2.length = Γ1.length := by rw [← s.len, wipe_length, s1.len]
  have hmu : ∀ j, mu (rst is Γ1 Γ2) j → mu Γ1 j := fun j ⟨d, m⟩ => by
    by_cases hj : j ∈ is
    · by_cases h2 : j < Γ2.length
      · rw [rst_in hj h2] at m
        have h3 : j < Γ1.length := by omega
        rw [List.getElem?_eq_getElem h3] at m
        have m : some Γ1[j] = some (Sl.own d) ∨ some Γ1[j] = some (Sl.byr d) := m
        rw [← List.getElem?_eq_getElem h3] at m
        exact ⟨d, m⟩
      · rw [List.getElem?_eq_none (by rw [rst_len]; omega)] at m
        rcases m with m | m <;> cases m
    · rw [rst_out hj] at m
      exact (wip_mu (x.k j ⟨d, m⟩)).2
  have far : ∀ j a, mu Γ1 j → j ∈ is → σ[j]? = some (some (.ref a)) → Hf' a = none ∧ H' a = H1 a := fun j a m hj ej => by
    obtain ⟨a', d, e', _, n1, _, o, q⟩ := s1.muAt m
    rw [ej] at e'
    cases e'
    have hn : ∀ i, mu (Zd.wip is Γ1) i → (wipe σ is)[i]? ≠ some (some (.ref a)) := fun i mi ei => by
      obtain ⟨h1, h2⟩ := wip_mu mi
      rw [wipe_at h1] at ei
      have := s1.inj i j a h2 m ei ej
      subst this
      exact h1 hj
    refine ⟨?_, by rw [q]; exact x.h a o q hn⟩
    cases w : Hf' a with
    | none => rfl
    | some u =>
      rcases x.n a u w with z | z
      · rw [n1] at z; cases z
      · rw [q] at z; cases z
  refine ⟨⟨by rw [rst_len, l2]; exact s1.len, fun j o g e1 e2 => ?_, fun i j a m1 m2 => s1.inj i j a (hmu i m1) (hmu j m2), s.fz, s.f0, s.fresh, s.dom, s.fr⟩, x.re (fun i m => ?_) hmu⟩
  · by_cases hj : j ∈ is
    · have h3 : j < Γ1.length := by have := (List.getElem?_eq_some_iff.mp e1).1; rw [s1.len] at this; exact this
      rw [rst_in hj (by omega), List.getElem?_eq_getElem h3] at e2
      have e2 : some Γ1[j] = some g := e2
      rw [← List.getElem?_eq_getElem h3] at e2
      cases s1.sl j o g e1 e2 with
      | no => exact .no
      | fn r => exact .fn r
      | val r => exact .val (r.mono x.f)
      | own n1 c1 hb => obtain ⟨z1, z2⟩ := far j _ ⟨_, .inl e2⟩ hj e1; exact .own z1 (c1.mono x.f z2) hb
      | byr n1 c1 hb => obtain ⟨z1, z2⟩ := far j _ ⟨_, .inr e2⟩ hj e1; exact .byr z1 (c1.mono x.f z2) hb
    · rw [rst_out hj] at e2
      exact s.sl j o g (by rw [wipe_at hj]; exact e1) e2
  · obtain ⟨h1, h2⟩ := wip_mu m
    exact ⟨h2, wipe_at h1⟩
end
section
variable {X : Cx} {K : KW} {bs : Bs} {fr : Md} {a b c e o tg it elt iter : Expr} {ifs : List Expr} {scope : Scope} {own : List (Str × Nat)} {pos p2 apos cpos py spos : Pos} {f g h : Ex} {fs : Exs} {i : Nat} {t u : Tx} {is js : List Nat} {gt : Tg} {y : Str}
theorem _root_.L2.PTs.wk {X : Cx} {e : List Expr} {t t' : TT} (h : PTs X e t) (w : ∀ σ H Q, t' σ H Q → t σ H Q) : PTs X e t' := ⟨fun pins s σ H Q I q => h.run pins s σ H Q I (w σ H Q q)⟩
theorem ts_nil : PTs X [] (tX K bs xYes) := pts_nil.wk fun σ H Q ⟨Hf, Γ, c, Γ', s, e, q⟩ => by
  have e : some (true, Γ) = some (c, Γ') := e
  cases e
  exact q Hf H s Ext.refl
theorem ts_one (h : PT X c (tX K bs t)) : PTs X [c] (tX K bs t) := pts_one h
theorem lcL_len {g : Tg} {t : Tx} {f : Ex} {is : List Nat} : ∀ {ds : List D} {Γ : Gm} {r : List D × Gm}, lcL g t f is ds Γ = some r → r.1.length ≤ ds.length
  | [], Γ, r, e => by rw [lcL] at e; cases e; exact Nat.le_refl _
  | d :: ds, Γ, r, e => by
    rw [lcL, Option.bind_eq_some_iff] at e
    obtain ⟨Γ1, e1, e⟩ := e
    rw [Option.bind_eq_some_iff] at e
    obtain ⟨c, e2, e⟩ := e
    split at e
    · rw [Option.bind_eq_some_iff] at e
      obtain ⟨p, e3, e⟩ := e
      rw [Option.map_eq_some_iff] at e
      obtain ⟨r', e4, rfl⟩ := e
      exact Nat.succ_le_succ (lcL_len e4)
    · exact Nat.le_succ_of_le (lcL_len e)
theorem lc_of (σ : L2.St) (H : Hp) (Q : VK) (hq : tF K bs (eLc fs gt t f is) σ H Q) : tLc (tI K bs fs) (tG K bs is gt) (tX K bs t) (tZ K bs f) is σ H Q := by
  obtain ⟨Hf, Γ, d, Γ', s, e, q⟩ := hq
  unfold eLc at e
  rw [Option.bind_eq_some_iff] at e
  obtain ⟨⟨ds, Γ1⟩, e1, e⟩ := e
  have e : (if ds.length ≤ 10000000 then (lcL gt t f is ds (wip is Γ1)).map fun r => (D.lst r.1, rst is Γ1 r.2) else none) = some (d, Γ') := e
  split at e
  · rename_i hlen
    rw [Option.map_eq_some_iff] at e
    obtain ⟨⟨tot, Γe⟩, e2, e3⟩ := e
    cases e3
    refine ⟨Hf, Γ, ds, Γ1, s, e1, fun J Hf1 H1 s1 x1 ok Dd hD => ?_⟩
    have hB : bs.B Dd = none := s1.bnone hD
    have nm : ∀ j, mu (wip is Γ1) j → (wipe σ is)[j]? ≠ some (some (.ref Dd)) := fun j m ej => (s1.wip is).mune m ej hD rfl
    refine ⟨fun k m H2 => ∃ Hf2 Γ2 acc xs rest, k ≤ ds.length ∧ m = ds.length - k ∧ acc.length ≤ k ∧ StR K bs Hf2 H2 (wipe σ is) Γ2 ∧ Ext (wipe σ is) (wip is Γ1) Γ2 Hf1 H1 Hf2 H2 ∧ Hf2 Dd = none ∧ H2 Dd = some (.lst xs) ∧ RepAll K Hf2 xs acc ∧ lcL gt t f is (ds.drop k) Γ2 = some (rest, Γe) ∧ acc ++ rest = tot, ⟨ds.length, Hf1, wip is Γ1, [], [], tot, Nat.zero_le _, rfl, Nat.le_refl _, (s1.wip is).made hD, (s1.wip is).madeX hD, s1.fnone hD, upd_same, .nil, e2, rfl⟩, ?_⟩
    rintro k m H2 ⟨Hf2, Γ2, acc, xs, rest, hk, rfl, hacc, s2, x2, n2, hD2, ra, e4, ht⟩
    have nm2 : ∀ j, mu Γ2 j → (wipe σ is)[j]? ≠ some (some (.ref Dd)) := fun j m => nm j (x2.k j m)
    by_cases hlt : k < ds.length
    · right
      have hd : ds[k]? = some ds[k] := List.getElem?_eq_getElem hlt
      obtain ⟨go, yl⟩ := (ok (wipe σ is) Γ2 Hf2 H2 s2 x2.f).1 k _ hd
      rw [drop_cons hd, lcL, Option.bind_eq_some_iff] at e4
      obtain ⟨Γ3, e5, e4⟩ := e4
      rw [Option.bind_eq_some_iff] at e4
      obtain ⟨⟨c, Γ4⟩, e6, e4⟩ := e4
      refine ⟨go, fun H5 => ∃ Hf5 Γ5 acc' xs' rest', acc'.length ≤ k + 1 ∧ StR K bs Hf5 H5 (wipe σ is) Γ5 ∧ Ext (wipe σ is) (wip is Γ1) Γ5 Hf1 H1 Hf5 H5 ∧ Hf5 Dd = none ∧ H5 Dd = some (.lst xs') ∧ RepAll K Hf5 xs' acc' ∧ lcL gt t f is (ds.drop (k + 1)) Γ5 = some (rest', Γe) ∧ acc' ++ rest' = tot, fun H5 ⟨Hf5, Γ5, acc', xs', rest', a1, a2, a3, a4, a5, a6, a7, a8⟩ => ⟨ds.length - (k + 1), by omega, Hf5, Γ5, acc', xs', rest', hlt, rfl, a1, a2, a3, a4, a5, a6, a7, a8⟩, fun v H3 hy => ?_⟩
      obtain ⟨Hf3, s3, x3, r3⟩ := yl v H3 hy
      refine ⟨Hf3, Γ2, _, Γ3, s3, r3, e5, fun σ6 s6 l6 k6 m6 => ⟨?_, Hf3, Γ3, c, Γ4, s6, e6, fun Hf7 H7 s7 x7 => ?_⟩⟩
      · rw [wipe_eq l6 k6]
        exact wipe_eq (by rw [wipe_length]) fun j hj => wipe_at hj
      have D3 : H3 Dd = some (.lst xs) := x3.h _ _ hD2 nm2
      have mσ : ∀ j, mu Γ3 j → mu Γ2 j ∧ σ6[j]? = (wipe σ is)[j]? := fun j m => ⟨(m6 j m).2, k6 j (m6 j m).1⟩
      have nm3 : ∀ j, mu Γ3 j → σ6[j]? ≠ some (some (.ref Dd)) := fun j m => by rw [(mσ j m).2]; exact nm2 j (mσ j m).1
      have D7 : H7 Dd = some (.lst xs) := x7.h _ _ D3 nm3
      have f7 : Hf7 Dd = none := by
        cases w : Hf7 Dd with
        | none => rfl
        | some u =>
          rcases x7.n _ _ w with z | z
          · rcases x3.n _ _ z with z | z
            · rw [n2] at z; cases z
            · rw [hD2] at z; cases z
          · rw [D3] at z; cases z
      have x17 := x2.trans (x3.trans (x7.re (Γ' := wip is Γ4) mσ fun j m => (mσ j (x7.k j (wip_mu m).2)).1))
      have wσ : wipe σ6 is = wipe σ is := by
        rw [wipe_eq l6 k6]
        exact wipe_eq (by rw [wipe_length]) fun j hj => wipe_at hj
      cases c with
      | false =>
        refine iteF ⟨Hf7, wip is Γ4, acc, xs, rest, Nat.le_succ_of_le hacc, ?_, x17, f7, D7, ra.mono (x3.f.trans x7.f), e4, ht⟩
        have := s7.wip is
        rw [wσ] at this
        exact this
      | true =>
        have e4 : (f Γ4).bind (fun p => (lcL gt t f is (ds.drop (k + 1)) (wip is p.2)).map fun r => (p.1 :: r.1, r.2)) = some (rest, Γe) := e4
        rw [Option.bind_eq_some_iff] at e4
        obtain ⟨⟨y, Γ8⟩, e8, e4⟩ := e4
        rw [Option.map_eq_some_iff] at e4
        obtain ⟨⟨rest', Γe'⟩, e9, e10⟩ := e4
        cases e10
        refine iteT ⟨Hf7, Γ4, y, Γ8, s7, e8, fun w Hf9 H9 s9 x9 r9 => ?_⟩
        have mσ4 : ∀ j, mu Γ4 j → mu Γ2 j ∧ σ6[j]? = (wipe σ is)[j]? := fun j m => mσ j (x7.k j m)
        have nm4 : ∀ j, mu Γ4 j → σ6[j]? ≠ some (some (.ref Dd)) := fun j m => nm3 j (x7.k j m)
        have D9 : H9 Dd = some (.lst xs) := x9.h _ _ D7 nm4
        have f9 : Hf9 Dd = none := by
          cases w : Hf9 Dd with
          | none => rfl
          | some u =>
            rcases x9.n _ _ w with z | z
            · rw [f7] at z; cases z
            · rw [D7] at z; cases z
        have x19 := x2.trans (x3.trans ((x7.trans x9).re (Γ' := wip is Γ8) mσ fun j m => (mσ j (x7.k j (x9.k j (wip_mu m).2))).1))
        refine ⟨xs, D9, szL' (by rw [ra.len]; omega), Hf9, wip is Γ8, acc ++ [y], xs ++ [w], rest', by rw [List.length_append]; show acc.length + 1 ≤ _; omega, ?_, x19.pend hD, f9, upd_same, (ra.mono ((x3.f.trans x7.f).trans x9.f)).append (.cons r9 .nil), e9, by rw [List.append_assoc]; exact ht⟩
        have s10 := s9.pend (o := .lst (xs ++ [w])) ⟨_, D9⟩ f9 hB fun j m => nm4 j (x9.k j m)
        have := s10.wip is
        rw [wσ] at this
        exact this
    · left
      have hi' : k = ds.length := by omega
      subst hi'
      rw [List.drop_length, lcL] at e4
      cases e4
      rw [List.append_nil] at ht
      subst ht
      obtain ⟨s11, x11⟩ := s1.unwipe x2 s2
      exact ⟨(ok (wipe σ is) _ Hf2 H2 s2 x2.f).2, q Dd Hf2 H2 s11 (x1.trans x11) (none_back x1 hD) n2 ⟨xs, hD2, ra⟩⟩
  · cases e
theorem f_lc (hc : X.calm = true) (hN : X.N.Nodup) (hi : PI X tg iter (tI X.kw bs fs)) (ok : BlkOk X.N X.env.scope scope own)
    (hg : ∀ (s : Shared) (H : Hp) (C : Addr) (cl : List (Str × Addr)) (fp : List Addr), PG (X.blk s H scope (compEnvC scope cl C X.env) fp) tg (tG X.kw bs (own.map (·.2)) gt)) (ht : ∀ (s : Shared) (H : Hp) (C : Addr) (cl : List (Str × Addr)) (fp : List Addr), PTs (X.blk s H scope (compEnvC scope cl C X.env) fp) ifs (tX X.kw bs t))
    (he : ∀ (s : Shared) (H : Hp) (C : Addr) (cl : List (Str × Addr)) (fp : List Addr), PE (X.blk s H scope (compEnvC scope cl C X.env) fp) elt (tZ X.kw bs f)) (hs : ∀ x, foldedSetIterable iter X.env x = pure x := by intro _; rfl) :
    PE X (.ListComp elt [⟨tg, iter, ifs, 0⟩] scope pos) (tF X.kw bs (eLc fs gt t f (own.map (·.2)))) := (pe_lc hc hN hi ok hg ht he hs).wk fun σ H Q q => lc_of σ H Q q
theorem s_setLc (hc : X.calm = true) (hN : X.N.Nodup) (hy : X.N[i]? = some y) (hyl : X.env.scope.names.lookup y = some .local)
    (hsw : swapsWith (.ListComp elt [⟨tg, iter, ifs, 0⟩] scope pos) (some (.Name y py)) spos.line X.env = pure true) (hi : PI X tg iter (tI X.kw bs fs)) (ok : BlkOk X.N X.env.scope scope own)
    (hg : ∀ (s : Shared) (H : Hp) (C : Addr) (cl : List (Str × Addr)) (fp : List Addr), PG (X.blk s H scope (compEnvC scope cl C X.env) fp) tg (tG X.kw bs (own.map (·.2)) gt)) (ht : ∀ (s : Shared) (H : Hp) (C : Addr) (cl : List (Str × Addr)) (fp : List Addr), PTs (X.blk s H scope (compEnvC scope cl C X.env) fp) ifs (tX X.kw bs t))
    (he : ∀ (s : Shared) (H : Hp) (C : Addr) (cl : List (Str × Addr)) (fp : List Addr), PE (X.blk s H scope (compEnvC scope cl C X.env) fp) elt (tZ X.kw bs f)) (hs : ∀ x, foldedSetIterable iter X.env x = pure x := by intro _; rfl) :
    PS X (.Assign [.Name y py] (.ListComp elt [⟨tg, iter, ifs, 0⟩] scope pos) spos) (tS X.kw bs fr (sOwn i (eLc fs gt t f (own.map (·.2))))) :=
  (ps_setLc hc hN hy hyl hsw hi ok hg ht he hs).wk fun D σ H q => by
    obtain ⟨Hf, Γ, d, Γ', s, e, q⟩ := own_of σ H D q
    exact lc_of σ H _ ⟨Hf, Γ, d, Γ', s, e, q⟩
end
end Zd

set_option maxHeartbeats 4000000
/-! Defs: their runs, their promises, their calls. -/
namespace Zd
open PySem PySem.Spec PyProof.Rows L2 Pd
def NewO (K : KW) (H Hf' H' : Hp) (v : V) (r : D) : Prop := ∃ a, v = .ref a ∧ H a = none ∧ Hf' a = none ∧ Cont K Hf' H' a r
def ResR (K : KW) (fr : Md) (H Hf' H' : Hp) (v : V) (r : D) : Prop := match fr with
  | .rest => Rep K Hf' v r
  | .fresh => NewO K H Hf' H' v r
  | .may => (v = .non ∧ r = .non) ∨ NewO K H Hf' H' v r
def spV (K : KW) (fr : Md) (F : List D → Option D) : Sp := fun vs H Q _ => ∃ Hf ds r, Same Hf H ∧ RepAll K Hf vs ds ∧ F ds = some r ∧
  ∀ v Hf' H', Same H H' → Same Hf Hf' → Same Hf' H' → (∀ a o, Hf' a = some o → Hf a = some o ∨ H a = none) → ResR K fr H Hf' H' v r → Q v H'
def spB (K : KW) (fr : Md) (F : D → List D → Option (D × D)) : Sp := fun vs H Q _ => ∃ h us Hf c ds r c', vs = .ref h :: us ∧ Same Hf H ∧ Hf h = none ∧ Cont K Hf H h c ∧ RepAll K Hf us ds ∧ F c ds = some (r, c') ∧
  ∀ v Hf' H', (∀ a o, a ≠ h → H a = some o → H' a = some o) → Same Hf Hf' → Same Hf' H' → (∀ a o, Hf' a = some o → Hf a = some o ∨ H a = none) → Hf' h = none → Cont K Hf' H' h c' → ResR K fr H Hf' H' v r → Q v H'
def retOf (fr : Md) : Fl → Option D
  | .rt d => some d
  | .nx => if fr = .fresh then none else some .non
  | _ => none
def runV (np n : Nat) (fr : Md) (f : Sx) (ds : List D) : Option D := if ds.length = np then (f (ds.map Sl.val ++ List.replicate (n - np) .no)).bind fun p => retOf fr p.1 else none
def byrOf : Option Sl → Option D
  | some (.byr d) => some d
  | _ => none
def runB (np n : Nat) (fr : Md) (f : Sx) (c : D) (ds : List D) : Option (D × D) := if ds.length + 1 = np then (f (.byr c :: (ds.map Sl.val ++ List.replicate (n - np) .no))).bind fun p => (retOf fr p.1).bind fun r => (byrOf p.2[0]?).map fun c' => (r, c') else none
section
variable {K : KW} {Hf H : Hp}
theorem st_val {b : Bs} : ∀ {vs : List V} {ds : List D} (i : Nat) (o : Option V) (g : Sl) (n : Nat), RepAll K Hf vs ds → (vs.map some ++ List.replicate n none)[i]? = some o → (ds.map Sl.val ++ List.replicate n Sl.no)[i]? = some g → ∀ j, SlOk K b Hf H j o g
  | [], [], i, o, g, n, _, e1, e2, j => by
    rw [List.map_nil, List.nil_append, List.getElem?_replicate] at e2
    split at e2
    · cases e2; exact .no
    · cases e2
  | v :: vs, d :: ds, 0, o, g, n, .cons h _, e1, e2, j => by
    have e1 : some (some v) = some o := e1
    have e2 : some (Sl.val d) = some g := e2
    cases e1
    cases e2
    exact .val h
  | v :: vs, d :: ds, i + 1, o, g, n, .cons _ t, e1, e2, j => st_val i o g n t e1 e2 j
theorem no_mu : ∀ {ds : List D} {n i : Nat}, ¬ mu (ds.map Sl.val ++ List.replicate n Sl.no) i
  | [], n, i, ⟨d, e⟩ => by
    rw [List.map_nil, List.nil_append, List.getElem?_replicate] at e
    split at e
    · rcases e with e | e <;> cases e
    · rcases e with e | e <;> cases e
  | _ :: ds, n, 0, ⟨d, e⟩ => by rcases e with e | e <;> cases e
  | _ :: ds, n, i + 1, ⟨d, e⟩ => no_mu (ds := ds) (n := n) (i := i) ⟨d, e⟩
theorem startV {N : List Str} {vs : List V} {ds : List D} (z : Same Hf H) (r : RepAll K Hf vs ds) : StR K ⟨H, Hf, []⟩ Hf H (L2.start N vs) (ds.map Sl.val ++ List.replicate (N.length - ds.length) .no) := by
  unfold L2.start
  rw [r.len]
  exact ⟨by simp [r.len], fun i o g e1 e2 => st_val i o g _ r e1 e2 i, fun i j a m => absurd m no_mu, z, Same.refl _, fun a o e => .inl e, fun a o e => ⟨o, e⟩, fun a o e _ => e⟩
theorem startB {N : List Str} {us : List V} {ds : List D} {h : Addr} {c : D} (z : Same Hf H) (r : RepAll K Hf us ds) (n : Hf h = none) (ch : Cont K Hf H h c) : StR K ⟨H, Hf, [(0, h)]⟩ Hf H (L2.start N (.ref h :: us)) (.byr c :: (ds.map Sl.val ++ List.replicate (N.length - (ds.length + 1)) .no)) := by
  unfold L2.start
  rw [List.length_cons, r.len, List.map_cons, List.cons_append]
  refine ⟨by simp [r.len], fun i o g e1 e2 => ?_, fun i j a m1 m2 e1 e2 => ?_, z, Same.refl _, fun a o e => .inl e, fun a o e => ⟨o, e⟩, fun a o e _ => e⟩
  · cases i with
    | zero =>
      have e1 : some (some (V.ref h)) = some o := e1
      have e2 : some (Sl.byr c) = some g := e2
      cases e1
      cases e2
      exact .byr n ch (List.mem_singleton.mpr rfl)
    | succ i => exact st_val i o g _ r e1 e2 (i + 1)
  · have only : ∀ i, mu (.byr c :: (ds.map Sl.val ++ List.replicate (N.length - (ds.length + 1)) .no)) i → i = 0 := fun i m => by
      cases i with
      | zero => rfl
      | succ i => exact absurd (show mu (ds.map Sl.val ++ List.replicate (N.length - (ds.length + 1)) .no) i from m) no_mu
    rw [only i m1, only j m2]
theorem endV {fr : Md} {Q : VK} {ds : List D} {r : D} {p : Fl × Gm} (z : Same Hf H) (hr : retOf fr p.1 = some r)
    (q : ∀ v Hf' H', Same H H' → Same Hf Hf' → Same Hf' H' → (∀ a o, Hf' a = some o → Hf a = some o ∨ H a = none) → ResR K fr H Hf' H' v r → Q v H') : Fin K ⟨H, Hf, []⟩ fr Hf { nx := fun _ H' => Q .non H', rt := Q } p.2 p.1 := by
  obtain ⟨fl, Γ'⟩ := p
  cases fl with
  | nx =>
    have hr : (if fr = .fresh then none else some D.non) = some r := hr
    cases fr with
    | fresh => cases hr
    | rest =>
      cases hr
      exact fun σ' Hf' H' s zz => q _ Hf' H' (fun a o e => s.fr a o e (fun i h => by cases h)) zz s.fz s.fresh .non
    | may =>
      cases hr
      exact fun σ' Hf' H' s zz => q _ Hf' H' (fun a o e => s.fr a o e (fun i h => by cases h)) zz s.fz s.fresh (.inl ⟨rfl, rfl⟩)
  | br => cases hr
  | ct => cases hr
  | rt d =>
    cases hr
    refine fun v σ' Hf' H' s zz rr => q v Hf' H' (fun a o e => s.fr a o e (fun i h => by cases h)) zz s.fz s.fresh ?_
    cases fr with
    | fresh => obtain ⟨a, e, n, c, hb⟩ := rr; exact ⟨a, e, hb, n, c⟩
    | rest => exact rr
    | may =>
      rcases rr with h | ⟨a, e, n, c, hb⟩
      · exact .inl h
      · exact .inr ⟨a, e, hb, n, c⟩
end
section
variable {P : Program} {w : World} {K : PySem.W.Frag} {mg : Str → Option Value} {base : Heap} {x qual : Str} {params : Arguments} {body : List Stmt} {scope : Scope} {dvs : List V} {kws : List (Str × V)} {f : Addr} {fd : FuncData} {N ps : List Str} {k : Nat} {sp : Sp} {fr : Md} {u : Sx}
theorem okGD (F : FunD K x qual params body scope dvs kws f fd) (S : FnScope N ps scope) (len : ∀ vs H Q E, sp vs H Q E → vs.length = ps.length)
    (hbody : ∀ (cdv : Value) (A : Around) (outer : List Env) (s : Shared) (H : Hp) (vs : List V) (Q : VK) (E : XK), A.guards = some [] → Room k (A.deeper (envOfC qual scope s.heap.objs.size f cdv)) → sp vs H Q E →
      ∃ t, PSs (cxOf CX0 P w K mg base N qual scope f cdv A outer s H E).nox body t ∧ t { nx := fun _ H' => Q .non H', rt := Q } (L2.start N vs) H) : FnG P w K mg base (k + 1) f fd ps sp := by
  obtain ⟨oc, od, dV, kV, doc, pm, an, cdv, ct, osl, rfl, lk, hcd, _, _⟩ := F.ex
  constructor
  · exact len
  intro A outer s H args us vs Q E hgd hr e0 hb r hsp
  have up : ∀ b o, base.get? b = some o → s.heap.get? b = some o := fun b o e => (e0.bs b o e).1
  have KX : K.In s.heap := e0.mod.kin.keeps up
  obtain ⟨t, ht0, hq⟩ := hbody cdv A outer s H vs Q E hgd (hr.deeper _) hsp
  have ht := ht0.nox
  refine codeAny_call_function hr.depth (KX _ _ lk) rfl S.co S.gen rfl (PySem.W.codeRec_of KX hcd) (hb _ _ _ _ ?_)
  refine wpAny_newFunctionEnv_cells S.kind (fun y hy => ?_) fun env he s1 x => ?_
  · rcases S.par y.1 (List.of_mem_zip (show (y.1, y.2) ∈ ps.zip us from hy)).1 with q | q
    · exact .inl q
    · exact .inr ⟨q, PySem.W.cellsFrom_some _ _ _ (.inl q)⟩
  subst he
  have I := inv_start (CX := CX0) (P := P) (w := w) (K := K) (mg := mg) (base := base) (E := E) S hr.hd e0 (len _ _ _ _ hsp) r x
  refine ⟨(e0.mod.nolimit.keeps up).keeps x.toInCall.keep, codeAny_func (wpAny_mono (ht.run [] s1 (L2.start N vs) H _ I hq) (fun fl s' hs => ?_) fun e s' z => z)⟩
  cases fl with
  | ret u =>
    obtain ⟨v, σ', H', J, rv, q⟩ := hs
    exact ⟨v, H', J.os, J.bare, J.base, J.hok, rv, q⟩
  | next =>
    obtain ⟨σ', H', J, q⟩ := hs
    exact ⟨.non, H', J.os, J.bare, J.base, J.hok, rfl, q⟩
  | brk => obtain ⟨_, _, _, q⟩ := hs; exact q.elim
  | cont => obtain ⟨_, _, _, q⟩ := hs; exact q.elim
theorem funD_of {st : Stmt} (F : L2.Fun K x qual st f fd) : FunD K x qual (defArgs st) (defBody st) (defScope st) [] [] f fd := by
  obtain ⟨oc, od, kV, doc, pm, an, cdv, ct, osl, rfl, lk, hcd⟩ := F.ex
  exact ⟨⟨oc, od, .none, kV, doc, pm, an, cdv, ct, osl, rfl, lk, hcd, .inl ⟨rfl, rfl⟩, .inl rfl⟩, F.kp⟩
theorem runV_some {np n : Nat} {ds : List D} {r : D} (e : runV np n fr u ds = some r) : ds.length = np ∧ ∃ p, u (ds.map Sl.val ++ List.replicate (n - np) .no) = some p ∧ retOf fr p.1 = some r := by
  unfold runV at e
  split at e
  · rename_i h
    rw [Option.bind_eq_some_iff] at e
    exact ⟨h, e⟩
  · cases e
theorem runB_some {np n : Nat} {ds : List D} {c r c' : D} (e : runB np n fr u c ds = some (r, c')) : ds.length + 1 = np ∧ ∃ p, u (.byr c :: (ds.map Sl.val ++ List.replicate (n - np) .no)) = some p ∧ retOf fr p.1 = some r ∧ p.2[0]? = some (.byr c') := by
  unfold runB at e
  split at e
  · rename_i h
    rw [Option.bind_eq_some_iff] at e
    obtain ⟨p, e1, e⟩ := e
    rw [Option.bind_eq_some_iff] at e
    obtain ⟨r', e2, e⟩ := e
    rw [Option.map_eq_some_iff] at e
    obtain ⟨c2, e3, e⟩ := e
    cases e
    refine ⟨h, p, e1, e2, ?_⟩
    unfold byrOf at e3
    split at e3
    · rename_i h; cases e3; exact h
    · cases e3
  · cases e
/-- THE RULE: a def's body, run over plain data -/
theorem okV (F : FunD K x qual params body scope dvs kws f fd) (S : FnScope N ps scope)
    (hb : ∀ (cdv : Value) (A : Around) (outer : List Env) (s : Shared) (H : Hp) (E : XK) (bs : Bs), A.guards = some [] → Room k (A.deeper (envOfC qual scope s.heap.objs.size f cdv)) →
      PSs (cxOf CX0 P w K mg base N qual scope f cdv A outer s H E).nox body (tS ⟨K, w⟩ bs fr u)) : FnG P w K mg base (k + 1) f fd ps (spV ⟨K, w⟩ fr (runV ps.length N.length fr u)) := by
  refine okGD F S (fun vs H Q E ⟨Hf, ds, r, z, rr, e, _⟩ => by rw [rr.len]; exact (runV_some e).1) fun cdv A outer s H vs Q E hgd hr hsp => ?_
  obtain ⟨Hf, ds, r, z, rr, e, q⟩ := hsp
  obtain ⟨hl, ⟨fl, Γ'⟩, e1, e2⟩ := runV_some e
  refine ⟨_, hb cdv A outer s H E ⟨H, Hf, []⟩ hgd hr, Hf, _, fl, Γ', startV (N := N) z rr, by rw [hl]; exact e1, endV (ds := ds) (p := (fl, Γ')) z e2 q⟩
theorem okB (F : FunD K x qual params body scope dvs kws f fd) (S : FnScope N ps scope)
    (hb : ∀ (cdv : Value) (A : Around) (outer : List Env) (s : Shared) (H : Hp) (E : XK) (bs : Bs), A.guards = some [] → Room k (A.deeper (envOfC qual scope s.heap.objs.size f cdv)) →
      PSs (cxOf CX0 P w K mg base N qual scope f cdv A outer s H E).nox body (tS ⟨K, w⟩ bs fr u)) : FnG P w K mg base (k + 1) f fd ps (spB ⟨K, w⟩ fr (runB ps.length N.length fr u)) := by
  refine okGD F S (fun vs H Q E ⟨h, us, Hf, c, ds, r, c', ev, z, n, ch, rr, e, _⟩ => by rw [ev, List.length_cons, rr.len]; exact (runB_some e).1) fun cdv A outer s H vs Q E hgd hr hsp => ?_
  obtain ⟨h, us, Hf, c, ds, r, c', rfl, z, n, ch, rr, e, q⟩ := hsp
  obtain ⟨hl, ⟨fl, Γ'⟩, e1, e2, e3⟩ := runB_some e
  refine ⟨_, hb cdv A outer s H E ⟨H, Hf, [(0, h)]⟩ hgd hr, Hf, _, fl, Γ', startB (N := N) z rr n ch, by rw [hl]; exact e1, ?_⟩
  have fin : ∀ (v : V) (σ' : L2.St) (Hf' H' : Hp), StR ⟨K, w⟩ ⟨H, Hf, [(0, h)]⟩ Hf' H' σ' Γ' → Same Hf Hf' → ResR ⟨K, w⟩ fr H Hf' H' v r → Q v H' := fun v σ' Hf' H' s' zz rs => by
    obtain ⟨o, h1, h2⟩ := s'.slot e3
    cases h2 with
    | byr n' c2 hr' =>
      have := List.mem_singleton.mp hr'
      cases this
      refine q v Hf' H' (fun a o ha ea => s'.fr a o ea fun i hi => ?_) zz s'.fz s'.fresh n' c2 rs
      have := List.mem_singleton.mp hi
      exact ha (Prod.mk.inj this).2
  cases fl with
  | nx =>
    have e2 : (if fr = .fresh then none else some D.non) = some r := e2
    cases fr with
    | fresh => cases e2
    | rest =>
      cases e2
      exact fun σ' Hf' H' s' zz => fin _ σ' Hf' H' s' zz .non
    | may =>
      cases e2
      exact fun σ' Hf' H' s' zz => fin _ σ' Hf' H' s' zz (.inl ⟨rfl, rfl⟩)
  | br => cases e2
  | ct => cases e2
  | rt d =>
    cases e2
    refine fun v σ' Hf' H' s' zz rr => fin v σ' Hf' H' s' zz ?_
    cases fr with
    | fresh => obtain ⟨a, e, n, c, hb⟩ := rr; exact ⟨a, e, hb, n, c⟩
    | rest => exact rr
    | may =>
      rcases rr with h | ⟨a, e, n, c, hb⟩
      · exact .inl h
      · exact .inr ⟨a, e, hb, n, c⟩
end
/-! ### calls -/
/-- a call of the name x, n values and the keywords ks written -/
structure CallOk (P : Program) (w : World) (K : PySem.W.Frag) (mg : Str → Option Value) (base : Heap) (k : Nat) (x : Str) (n : Nat) (ks : List Str) (sp : Sp) : Prop where
  ex : ∃ f, mg x = some (.ref f) ∧ PySem.W.keepIn K (.ref f) = true ∧ ∀ (A : Around) (outer : List Env) (s : Shared) (H : Hp) (us ws : List Value) (vs zs : List V) (Q : VK), A.guards = some [] → Room k A → Env0 P w K mg base A outer s H → Vals vs us → Vals zs ws → vs.length = n → zs.length = ks.length → sp (vs ++ zs) H Q E0 →
    codeAny (model P w) A (.call (.ref f) ⟨us, ks.zip ws⟩) (CR CX0 outer P w H s Q E0) s
section
variable {P : Program} {w : World} {K : PySem.W.Frag} {mg : Str → Option Value} {base : Heap} {k n : Nat} {x : Str} {ks ps : List Str} {sp sp' : Sp} {f : Addr} {fd : FuncData} {ds : List Value} {dvs : List V}
theorem callOk_pos (F : FnG P w K mg base k f fd ps sp) (hm : mg x = some (.ref f)) (kp : PySem.W.keepIn K (.ref f) = true) (hb : Binds K fd ps ds) (hd : Vals dvs ds) (hn : ∀ vs H Q, vs.length = n → sp' vs H Q E0 → sp (vs ++ dvs) H Q E0) : CallOk P w K mg base k x n [] sp' := by
  refine ⟨f, hm, kp, fun A outer s H us ws vs zs Q hg hr e0 r1 r2 l1 l2 q => ?_⟩
  have : zs = [] := List.eq_nil_of_length_eq_zero l2
  subst this
  cases r2
  rw [List.append_nil] at q
  have q2 := hn _ _ _ l1 q
  have hl := F.len _ _ _ _ q2
  have r3 := r1.append hd
  have KX : K.In s.heap := e0.mod.kin.keeps fun b o e => (e0.bs b o e).1
  exact F.run A outer s H ⟨us, []⟩ (us ++ ds) (vs ++ dvs) Q E0 hg hr e0 (hb s us KX (by rw [← r3.length]; exact hl)) r3 q2
theorem callOk_kw {g : List Value → List Value → List Value} {gV : List V → List V → List V} (F : FnG P w K mg base k f fd ps sp) (hm : mg x = some (.ref f)) (kp : PySem.W.keepIn K (.ref f) = true) (hb : KBn K fd ps n ks g gV)
    (hn : ∀ vs zs H Q, vs.length = n → zs.length = ks.length → sp' (vs ++ zs) H Q E0 → sp (gV vs zs) H Q E0) : CallOk P w K mg base k x n ks sp' := by
  refine ⟨f, hm, kp, fun A outer s H us ws vs zs Q hg hr e0 r1 r2 l1 l2 q => ?_⟩
  have KX : K.In s.heap := e0.mod.kin.keeps fun b o e => (e0.bs b o e).1
  exact F.run A outer s H ⟨us, ks.zip ws⟩ (g us ws) (gV vs zs) Q E0 hg hr e0 (hb.to s us ws KX (r1.length.symm.trans l1) (r2.length.symm.trans l2)) (hb.rel r1 r2) (hn _ _ _ _ l1 l2 q)
end
def eCall (F : List D → Option D) (fs : Exs) : Ex := fun Γ => (fs Γ).bind fun p => (F p.1).map fun r => (r, p.2)
/-- x(s, ..), the slot s passed to be changed -/
def eCallB (F : D → List D → Option (D × D)) (i : Nat) (fs : Exs) : Ex := fun Γ => (muD Γ i).bind fun _ => (fs Γ).bind fun p => (muD p.2 i).bind fun c => (F c p.1).map fun r => (r.1, putS p.2 i r.2)
section
variable {X : Cx} {bs : Bs} {k j n i : Nat} {x : Str} {ks : List Str} {p pos : Pos} {e : Expr} {es : List Expr} {kws : List Keyword} {fs gs : Exs} {F : List D → Option D} {G : D → List D → Option (D × D)} {sp : Sp} {t tk : TA}
def tCallC (n m : Nat) (sp : Sp) (t tk : TA) : TE := fun σ H Q => t σ H fun vs H1 => tk σ H1 fun zs H2 => vs.length = n ∧ zs.length = m ∧ sp (vs ++ zs) H2 Q E0
theorem call_end {pins : List (Addr × Obj)} {σ : L2.St} {H : Hp} {s : Shared} {Q : VK} {us ws : List Value} {vs zs : List V} {f : Addr} (I : Inv X pins σ H s)
    (h : codeAny (model X.prog X.w) X.A (.call (.ref f) ⟨us, ks.zip ws⟩) (CR CX0 X.stack X.prog X.w H s Q E0) s) : wpAny (model X.prog X.w) X.A (call (.ref f) us (ks.zip ws)) (EP X pins σ Q) X.xe s := by
  refine wpAny_call (codeAny_mono h fun r s' hq => ?_)
  cases r with
  | error e => exact hq.elim
  | ok fl =>
    cases fl with
    | ret u => exact I.after hq
    | next => exact False.elim hq
    | brk => exact False.elim hq
    | cont => exact False.elim hq
theorem pe_c1 (c : CallOk X.prog X.w X.K X.mg X.base k x n [] sp) (hgd : X.A.guards = some []) (hr : Room j X.A) (hk : k ≤ j) (hg : Gl X x) (ha : PA X (e :: es) t)
    (hdb : (x == ("__debug__" : Str)) = false := by decide) (he : starEach (e :: es) X.env = (false, eval e X.env) :: starEach es X.env := by rfl) (hpl : (backTo pos (starEach es X.env)).any (·.1) = false := by rfl) :
    PE X (.Call (.Name x p) (e :: es) [] pos) (tCallC n 0 sp t tNil) := by
  obtain ⟨f, hm, kp, F⟩ := c.ex
  refine ⟨fun pins s σ H Q I h => wpAny_Call_Name_kw (ld_glob I hg hm ?_ hdb)⟩
  refine PySem.W.callWith_K (h₀ := X.base) I.ok.mod.kin kp (thn (ha.run pos pins s σ H _ I h) fun us s1 ⟨vs, H1, I1, r, l1, l2, q⟩ => ⟨I1.kIn, ?_⟩) he hpl
  exact call_end (ks := []) (ws := []) (vs := vs) (zs := []) I1 (F X.A X.stack s1 H1 us [] vs [] Q hgd (hr.mono hk) I1.env0 r .nil l1 rfl q)
theorem pe_c0 (c : CallOk X.prog X.w X.K X.mg X.base k x 0 ks sp) (hgd : X.A.guards = some []) (hr : Room j X.A) (hk : k ≤ j) (hg : Gl X x) (hkw : PK X kws tk)
    (hall : (backToKw pos (keywordEach kws X.env)).all (·.1.isSome) = true := by rfl) (hks : (backToKw pos (keywordEach kws X.env)).filterMap (·.1) = ks := by rfl) (hdb : (x == ("__debug__" : Str)) = false := by decide)
    (hpl : ((backTo pos (starEach [] X.env)).any (·.1) || (backToKw pos (keywordEach kws X.env)).any (·.1.isNone)) = false := by rfl) :
    PE X (.Call (.Name x p) [] kws pos) (tCallC 0 ks.length sp tNil tk) := by
  obtain ⟨f, hm, kp, F⟩ := c.ex
  refine ⟨fun pins s σ H Q I h => ?_⟩
  refine wpAny_Call_Name_kw (ld_glob I hg hm ?_ hdb)
  refine PySem.W.callWith_KW0 (h₀ := X.base) I.ok.mod.kin kp hall ?_ hpl
  refine thn (hkw.run pos pins s σ H _ I h) fun ws s2 ⟨zs, H2, I2, rz, l1, l2, q2⟩ => ⟨I2.kIn, ?_⟩
  rw [hks]
  exact call_end (vs := []) (zs := zs) I2 (F X.A X.stack s2 H2 [] ws [] zs Q hgd (hr.mono hk) I2.env0 .nil rz rfl l2 q2)
theorem pe_cm (c : CallOk X.prog X.w X.K X.mg X.base k x n ks sp) (hgd : X.A.guards = some []) (hr : Room j X.A) (hk : k ≤ j) (hg : Gl X x) (ha : PA X (e :: es) t) (hkw : PK X kws tk)
    (hall : (backToKw pos (keywordEach kws X.env)).all (·.1.isSome) = true := by rfl) (hks : (backToKw pos (keywordEach kws X.env)).filterMap (·.1) = ks := by rfl) (hdb : (x == ("__debug__" : Str)) = false := by decide)
    (he : starEach (e :: es) X.env = (false, eval e X.env) :: starEach es X.env := by rfl)
    (hpl : ((backTo pos (starEach (e :: es) X.env)).any (·.1) || (backToKw pos (keywordEach kws X.env)).any (·.1.isNone)) = false := by rfl) :
    PE X (.Call (.Name x p) (e :: es) kws pos) (tCallC n ks.length sp t tk) := by
  obtain ⟨f, hm, kp, F⟩ := c.ex
  refine ⟨fun pins s σ H Q I h => ?_⟩
  refine wpAny_Call_Name_kw (ld_glob I hg hm ?_ hdb)
  refine PySem.W.callWith_KW (h₀ := X.base) I.ok.mod.kin kp hall (thn (ha.run pos pins s σ H _ I h) fun us s1 ⟨vs, H1, I1, r, q⟩ => ?_) hpl he
  refine thn (hkw.run pos pins s1 σ H1 _ I1 q) fun ws s2 ⟨zs, H2, I2, rz, l1, l2, q2⟩ => ⟨I2.kIn, ?_⟩
  rw [hks]
  exact call_end (vs := vs) (zs := zs) I2 (F X.A X.stack s2 H2 us ws vs zs Q hgd (hr.mono hk) I2.env0 r rz l1 l2 q2)
theorem tVs_nil {K : KW} (σ : L2.St) (H : Hp) (Q : List V → Hp → Prop) (h : tVs K bs vsN σ H Q) : tNil σ H Q := by
  obtain ⟨Hf, Γ, ds, Γ', s, e, q⟩ := h
  have e : some (([] : List D), Γ) = some (ds, Γ') := e
  cases e
  exact q [] Hf H s Ext.refl .nil
theorem k_nil {K : KW} : PK X [] (tVs K bs vsN) := pk_nil.wk tVs_nil
theorem k_cons {K : KW} {f : Ex} {nm : Option Str} {kpos : Pos} (h1 : PE X e (tZ K bs f)) (h2 : PK X kws (tVs K bs fs)) : PK X (⟨nm, e, kpos⟩ :: kws) (tVs K bs (vsC f fs)) := (pk_cons h1 h2).wk fun σ H Q ⟨Hf, Γ, o, Γ', st, e, q⟩ => by
  unfold vsC at e
  rw [Option.bind_eq_some_iff] at e
  obtain ⟨⟨o1, Γ1⟩, e1, e2⟩ := e
  rw [Option.map_eq_some_iff] at e2
  obtain ⟨⟨o2, Γ2⟩, e2, e3⟩ := e2
  cases e3
  exact ⟨Hf, Γ, o1, Γ1, st, e1, fun v Hf1 H1 s1 x1 r1 => ⟨Hf1, Γ1, o2, Γ2, s1, e2, fun vs Hf2 H2 s2 x2 r2 => q _ Hf2 H2 s2 (x1.trans x2) (.cons (r1.mono x2.f) r2)⟩⟩
/-- behind a call that changes nothing that stood -/
theorem after_call {K : KW} {σ : L2.St} {Γ : Gm} {Hf H Hf' H' : Hp} (s : StR K bs Hf H σ Γ) (h : Same H H') (f : Same Hf Hf') (z : Same Hf' H') (n : ∀ a o, Hf' a = some o → Hf a = some o ∨ H a = none) : StR K bs Hf' H' σ Γ ∧ Ext σ Γ Γ Hf H Hf' H' := ⟨s.grow f h z n, Ext.grow f h n⟩
theorem callV_of {K : KW} {n m : Nat} (hn : ∀ Γ ds Γ', fs Γ = some (ds, Γ') → ds.length = n) (hm : ∀ Γ ds Γ', gs Γ = some (ds, Γ') → ds.length = m) (σ : L2.St) (H : Hp) (Q : VK)
    (hq : tZ K bs (fun Γ => (fs Γ).bind fun p => (gs p.2).bind fun q => (F (p.1 ++ q.1)).map fun r => (r, q.2)) σ H Q) : tCallC n m (spV K .rest F) (tVs K bs fs) (tVs K bs gs) σ H Q := by
  obtain ⟨Hf, Γ, d, Γ', st, e, q⟩ := hq
  have e := Option.bind_eq_some_iff.mp e
  obtain ⟨⟨d1, Γ1⟩, e1, e⟩ := e
  have e := Option.bind_eq_some_iff.mp e
  obtain ⟨⟨d2, Γ2⟩, e2, e⟩ := e
  have e := Option.map_eq_some_iff.mp e
  obtain ⟨r, e3, e⟩ := e
  cases e
  refine ⟨Hf, Γ, d1, Γ1, st, e1, fun vs Hf1 H1 s1 x1 r1 => ⟨Hf1, Γ1, d2, Γ2, s1, e2, fun zs Hf2 H2 s2 x2 r2 => ⟨by rw [r1.len]; exact hn _ _ _ e1, by rw [r2.len]; exact hm _ _ _ e2, Hf2, d1 ++ d2, d, s2.fz, (r1.mono x2.f).append r2, e3, fun v Hf3 H3 h1 h2 h3 h4 rr => ?_⟩⟩⟩
  obtain ⟨s3, x3⟩ := after_call s2 h1 h2 h3 h4
  exact q v Hf3 H3 s3 ((x1.trans x2).trans x3) rr
theorem callF_of {K : KW} {n m : Nat} (hn : ∀ Γ ds Γ', fs Γ = some (ds, Γ') → ds.length = n) (hm : ∀ Γ ds Γ', gs Γ = some (ds, Γ') → ds.length = m) (σ : L2.St) (H : Hp) (Q : VK)
    (hq : tF K bs (fun Γ => (fs Γ).bind fun p => (gs p.2).bind fun q => (F (p.1 ++ q.1)).map fun r => (r, q.2)) σ H Q) : tCallC n m (spV K .fresh F) (tVs K bs fs) (tVs K bs gs) σ H Q := by
  obtain ⟨Hf, Γ, d, Γ', st, e, q⟩ := hq
  have e := Option.bind_eq_some_iff.mp e
  obtain ⟨⟨d1, Γ1⟩, e1, e⟩ := e
  have e := Option.bind_eq_some_iff.mp e
  obtain ⟨⟨d2, Γ2⟩, e2, e⟩ := e
  have e := Option.map_eq_some_iff.mp e
  obtain ⟨r, e3, e⟩ := e
  cases e
  refine ⟨Hf, Γ, d1, Γ1, st, e1, fun vs Hf1 H1 s1 x1 r1 => ⟨Hf1, Γ1, d2, Γ2, s1, e2, fun zs Hf2 H2 s2 x2 r2 => ⟨by rw [r1.len]; exact hn _ _ _ e1, by rw [r2.len]; exact hm _ _ _ e2, Hf2, d1 ++ d2, d, s2.fz, (r1.mono x2.f).append r2, e3, fun v Hf3 H3 h1 h2 h3 h4 rr => ?_⟩⟩⟩
  obtain ⟨s3, x3⟩ := after_call s2 h1 h2 h3 h4
  obtain ⟨a, rfl, n1, n2, c⟩ := rr
  exact q a Hf3 H3 s3 ((x1.trans x2).trans x3) (none_back (x1.trans x2) n1) n2 c
end
end Zd

set_option maxHeartbeats 4000000
namespace Zd
open PySem PySem.Spec PyProof.Rows L2 Pd
section
variable {K : KW} {b : Bs} {Hf H Hf' H' : Hp} {σ : L2.St} {Γ : Gm} {i : Nat}
theorem StR.byref {h : Addr} {c c' : D} (s : StR K b Hf H σ Γ) (e : muD Γ i = some c) (ha : σ[i]? = some (some (.ref h))) (hs : ∀ a o, a ≠ h → H a = some o → H' a = some o) (f : Same Hf Hf') (z : Same Hf' H')
    (n : ∀ a o, Hf' a = some o → Hf a = some o ∨ H a = none) (nh : Hf' h = none) (ch : Cont K Hf' H' h c') : StR K b Hf' H' σ (putS Γ i c') ∧ Ext σ Γ (putS Γ i c') Hf H Hf' H' := by
  obtain ⟨m, _⟩ := muD_mu e
  have oth : ∀ x o', H x = some o' → ∃ o2, H' x = some o2 := fun x o' q => by
    by_cases hx : x = h
    · subst hx; exact ch.is
    · exact ⟨o', hs x o' hx q⟩
  have hmu : ∀ j x, mu Γ j → j ≠ i → σ[j]? = some (some (.ref x)) → Hf' x = none ∧ H' x = H x := fun j x mj hj ej => by
    have hx : x ≠ h := fun w => hj (s.inj j i h mj m (by rw [← w]; exact ej) ha)
    obtain ⟨a', d, e', _, n1, _, o, q⟩ := s.muAt mj
    rw [ej] at e'
    cases e'
    refine ⟨?_, by rw [q]; exact hs x o hx q⟩
    cases w : Hf' x with
    | none => rfl
    | some u =>
      rcases n x u w with y | y
      · rw [n1] at y; cases y
      · rw [q] at y; cases y
  refine ⟨⟨s.len.trans putS_len.symm, fun j w g e1 e2 => ?_, fun j l x m1 m2 => s.inj j l x (mu_put.mp m1) (mu_put.mp m2), z, s.f0.trans f, fun x w q => ?_, fun x w q => ?_, fun x w q hr => ?_⟩, f, fun x w q hn => ?_, n, oth, fun j m => mu_put.mp m⟩
  · by_cases hj : j = i
    · subst hj
      rw [ha] at e1
      cases e1
      unfold muD at e
      unfold putS at e2
      split at e
      · rename_i hg
        rw [hg] at e2
        have e2 : (Γ.set j (.own c'))[j]? = some g := e2
        rw [List.getElem?_set_self (List.getElem?_eq_some_iff.mp hg).1] at e2
        cases e2
        cases s.sl j _ _ ha hg with
        | own n1 c1 hb => exact .own nh ch hb
      · rename_i hg
        rw [hg] at e2
        have e2 : (Γ.set j (.byr c'))[j]? = some g := e2
        rw [List.getElem?_set_self (List.getElem?_eq_some_iff.mp hg).1] at e2
        cases e2
        cases s.sl j _ _ ha hg with
        | byr n1 c1 hb => exact .byr nh ch hb
      · cases e
    · have e3 : Γ[j]? = some g := by
        unfold putS at e2
        split at e2
        · rwa [List.getElem?_set_ne (Ne.symm hj)] at e2
        · rwa [List.getElem?_set_ne (Ne.symm hj)] at e2
        · exact e2
      cases s.sl j w g e1 e3 with
      | no => exact .no
      | fn r => exact .fn r
      | val r => exact .val (r.mono f)
      | own n1 c1 hb => obtain ⟨z1, z2⟩ := hmu j _ ⟨_, .inl e3⟩ hj e1; exact .own z1 (c1.mono f z2) hb
      | byr n1 c1 hb => obtain ⟨z1, z2⟩ := hmu j _ ⟨_, .inr e3⟩ hj e1; exact .byr z1 (c1.mono f z2) hb
  · rcases n x w q with y | y
    · exact s.fresh x w y
    · exact .inr (s.bnone y)
  · obtain ⟨o', q'⟩ := s.dom x w q
    exact oth x o' q'
  · have hx : x ≠ h := fun y => by
      subst y
      unfold muD at e
      split at e
      · rename_i hg
        cases s.sl i _ _ ha hg with
        | own n1 c1 hb => rw [q] at hb; cases hb
      · rename_i hg
        cases s.sl i _ _ ha hg with
        | byr n1 c1 hb => exact hr i hb
      · cases e
    exact hs x w hx (s.fr x w q hr)
  · exact hs x w (fun y => hn i m (by rw [y]; exact ha)) q
theorem eqlen_N : ∀ Γ ds Γ', vsN Γ = some (ds, Γ') → ds.length = 0 := fun Γ ds Γ' e => by
  have e : some (([] : List D), Γ) = some (ds, Γ') := e
  cases e
  rfl
theorem eqlen_C {f : Ex} {fs : Exs} {n : Nat} (h : ∀ Γ ds Γ', fs Γ = some (ds, Γ') → ds.length = n) : ∀ Γ ds Γ', vsC f fs Γ = some (ds, Γ') → ds.length = n + 1 := fun Γ ds Γ' e => by
  unfold vsC at e
  rw [Option.bind_eq_some_iff] at e
  obtain ⟨⟨o1, Γ1⟩, e1, e2⟩ := e
  rw [Option.map_eq_some_iff] at e2
  obtain ⟨⟨o2, Γ2⟩, e2, e3⟩ := e2
  cases e3
  exact congrArg Nat.succ (h _ _ _ e2)
end
section
variable {X : Cx} {bs : Bs} {k j n i : Nat} {x : Str} {ks : List Str} {p pos : Pos} {e e0 : Expr} {es : List Expr} {kws : List Keyword} {fs gs : Exs} {F : List D → Option D} {G : D → List D → Option (D × D)} {sp : Sp} {t tk : TA}
def eCallK (F : List D → Option D) (fs gs : Exs) : Ex := fun Γ => (fs Γ).bind fun p => (gs p.2).bind fun q => (F (p.1 ++ q.1)).map fun r => (r, q.2)
theorem eCall_K : eCallK F fs vsN = eCall F fs := by
  funext Γ
  unfold eCallK eCall vsN
  cases fs Γ with
  | none => rfl
  | some p =>
    show (F (p.1 ++ [])).map _ = (F p.1).map _
    rw [List.append_nil]
theorem eCall_K0 : eCallK F vsN gs = eCall F gs := by
  funext Γ
  unfold eCallK eCall vsN
  rfl
theorem tC_nil {K : KW} {n m : Nat} {sp : Sp} {t : TA} (σ : L2.St) (H : Hp) (Q : VK) (ht : ∀ σ H Q Q', (∀ v H', Q v H' → Q' v H') → t σ H Q → t σ H Q') (h : tCallC n m sp t (tVs K bs vsN) σ H Q) : tCallC n m sp t tNil σ H Q :=
  ht σ H _ _ (fun vs H1 h1 => tVs_nil σ H1 _ h1) h
theorem tVs_mono {K : KW} {fs : Exs} (σ : L2.St) (H : Hp) (Q Q' : List V → Hp → Prop) (w : ∀ v H', Q v H' → Q' v H') (h : tVs K bs fs σ H Q) : tVs K bs fs σ H Q' := by
  obtain ⟨Hf, Γ, ds, Γ', s, e, q⟩ := h
  exact ⟨Hf, Γ, ds, Γ', s, e, fun vs Hf' H' s' x r => w _ _ (q vs Hf' H' s' x r)⟩
theorem z_call (c : CallOk X.prog X.w X.K X.mg X.base k x n [] (spV X.kw .rest F)) (hgd : X.A.guards = some []) (hr : Room j X.A) (hk : k ≤ j) (hg : Gl X x) (ha : PA X (e :: es) (tVs X.kw bs fs)) (hn : ∀ Γ ds Γ', fs Γ = some (ds, Γ') → ds.length = n)
    (hdb : (x == ("__debug__" : Str)) = false := by decide) (he : starEach (e :: es) X.env = (false, eval e X.env) :: starEach es X.env := by rfl) (hpl : (backTo pos (starEach es X.env)).any (·.1) = false := by rfl) :
    PE X (.Call (.Name x p) (e :: es) [] pos) (tZ X.kw bs (eCall F fs)) := (pe_c1 c hgd hr hk hg ha hdb he hpl).wk fun σ H Q q => tC_nil (K := X.kw) (bs := bs) σ H Q (fun σ H Q Q' w h => tVs_mono σ H Q Q' w h) (callV_of hn eqlen_N σ H Q (by
      rw [← eCall_K] at q
      exact q))
theorem f_call (c : CallOk X.prog X.w X.K X.mg X.base k x n [] (spV X.kw .fresh F)) (hgd : X.A.guards = some []) (hr : Room j X.A) (hk : k ≤ j) (hg : Gl X x) (ha : PA X (e :: es) (tVs X.kw bs fs)) (hn : ∀ Γ ds Γ', fs Γ = some (ds, Γ') → ds.length = n)
    (hdb : (x == ("__debug__" : Str)) = false := by decide) (he : starEach (e :: es) X.env = (false, eval e X.env) :: starEach es X.env := by rfl) (hpl : (backTo pos (starEach es X.env)).any (·.1) = false := by rfl) :
    PE X (.Call (.Name x p) (e :: es) [] pos) (tF X.kw bs (eCall F fs)) := (pe_c1 c hgd hr hk hg ha hdb he hpl).wk fun σ H Q q => tC_nil (K := X.kw) (bs := bs) σ H Q (fun σ H Q Q' w h => tVs_mono σ H Q Q' w h) (callF_of hn eqlen_N σ H Q (by
      rw [← eCall_K] at q
      exact q))
theorem tC_nil0 {K : KW} {n m : Nat} {sp : Sp} {tk : TA} (σ : L2.St) (H : Hp) (Q : VK) (h : tCallC n m sp (tVs K bs vsN) tk σ H Q) : tCallC n m sp tNil tk σ H Q := tVs_nil σ H _ h
theorem z_callk (c : CallOk X.prog X.w X.K X.mg X.base k x 0 ks (spV X.kw .rest F)) (hgd : X.A.guards = some []) (hr : Room j X.A) (hk : k ≤ j) (hg : Gl X x) (hkw : PK X kws (tVs X.kw bs gs)) (hn : ∀ Γ ds Γ', gs Γ = some (ds, Γ') → ds.length = ks.length)
    (hall : (backToKw pos (keywordEach kws X.env)).all (·.1.isSome) = true := by rfl) (hks : (backToKw pos (keywordEach kws X.env)).filterMap (·.1) = ks := by rfl) (hdb : (x == ("__debug__" : Str)) = false := by decide)
    (hpl : ((backTo pos (starEach [] X.env)).any (·.1) || (backToKw pos (keywordEach kws X.env)).any (·.1.isNone)) = false := by rfl) :
    PE X (.Call (.Name x p) [] kws pos) (tZ X.kw bs (eCall F gs)) := (pe_c0 c hgd hr hk hg hkw hall hks hdb hpl).wk fun σ H Q q => tC_nil0 (K := X.kw) (bs := bs) σ H Q (callV_of eqlen_N hn σ H Q (by
      rw [← eCall_K0] at q
      exact q))
theorem f_callk (c : CallOk X.prog X.w X.K X.mg X.base k x 0 ks (spV X.kw .fresh F)) (hgd : X.A.guards = some []) (hr : Room j X.A) (hk : k ≤ j) (hg : Gl X x) (hkw : PK X kws (tVs X.kw bs gs)) (hn : ∀ Γ ds Γ', gs Γ = some (ds, Γ') → ds.length = ks.length)
    (hall : (backToKw pos (keywordEach kws X.env)).all (·.1.isSome) = true := by rfl) (hks : (backToKw pos (keywordEach kws X.env)).filterMap (·.1) = ks := by rfl) (hdb : (x == ("__debug__" : Str)) = false := by decide)
    (hpl : ((backTo pos (starEach [] X.env)).any (·.1) || (backToKw pos (keywordEach kws X.env)).any (·.1.isNone)) = false := by rfl) :
    PE X (.Call (.Name x p) [] kws pos) (tF X.kw bs (eCall F gs)) := (pe_c0 c hgd hr hk hg hkw hall hks hdb hpl).wk fun σ H Q q => tC_nil0 (K := X.kw) (bs := bs) σ H Q (callF_of eqlen_N hn σ H Q (by
      rw [← eCall_K0] at q
      exact q))
theorem z_callm (c : CallOk X.prog X.w X.K X.mg X.base k x n ks (spV X.kw .rest F)) (hgd : X.A.guards = some []) (hr : Room j X.A) (hk : k ≤ j) (hg : Gl X x) (ha : PA X (e :: es) (tVs X.kw bs fs)) (hkw : PK X kws (tVs X.kw bs gs)) (hn : ∀ Γ ds Γ', fs Γ = some (ds, Γ') → ds.length = n) (hm : ∀ Γ ds Γ', gs Γ = some (ds, Γ') → ds.length = ks.length)
    (hall : (backToKw pos (keywordEach kws X.env)).all (·.1.isSome) = true := by rfl) (hks : (backToKw pos (keywordEach kws X.env)).filterMap (·.1) = ks := by rfl) (hdb : (x == ("__debug__" : Str)) = false := by decide)
    (he : starEach (e :: es) X.env = (false, eval e X.env) :: starEach es X.env := by rfl)
    (hpl : ((backTo pos (starEach (e :: es) X.env)).any (·.1) || (backToKw pos (keywordEach kws X.env)).any (·.1.isNone)) = false := by rfl) :
    PE X (.Call (.Name x p) (e :: es) kws pos) (tZ X.kw bs (eCallK F fs gs)) := (pe_cm c hgd hr hk hg ha hkw hall hks hdb he hpl).wk fun σ H Q q => callV_of hn hm σ H Q q
/-- a def that changes what its first argument holds -/
theorem callB_of {K : KW} {n : Nat} (hn : ∀ Γ ds Γ', fs Γ = some (ds, Γ') → ds.length = n) (σ : L2.St) (H : Hp) (Q : VK) (hq : tZ K bs (eCallB G i fs) σ H Q) : tCallC (n + 1) 0 (spB K .rest G) (tCons (tVar i) (tVs K bs fs)) tNil σ H Q := by
  obtain ⟨Hf, Γ, d, Γ', st, e, q⟩ := hq
  unfold eCallB at e
  rw [Option.bind_eq_some_iff] at e
  obtain ⟨c0, e0, e⟩ := e
  rw [Option.bind_eq_some_iff] at e
  obtain ⟨⟨d1, Γ1⟩, e1, e⟩ := e
  rw [Option.bind_eq_some_iff] at e
  obtain ⟨c, e2, e⟩ := e
  rw [Option.map_eq_some_iff] at e
  obtain ⟨⟨r, c'⟩, e3, e⟩ := e
  cases e
  obtain ⟨m, _⟩ := muD_mu e0
  obtain ⟨h, d0, h1, _⟩ := st.muAt m
  refine ⟨.ref h, h1, Hf, Γ, d1, Γ1, st, e1, fun vs Hf1 H1 s1 x1 r1 => ⟨by rw [List.length_cons, r1.len, hn _ _ _ e1], rfl, ?_⟩⟩
  obtain ⟨m2, g2⟩ := muD_mu e2
  obtain ⟨h', d0', h1', h2', h3', h4', _⟩ := s1.muAt m2
  rw [h1] at h1'
  cases h1'
  rw [g2] at h2'
  cases h2'
  rw [List.append_nil]
  refine ⟨h, vs, Hf1, _, d1, _, c', rfl, s1.fz, h3', h4', r1, e3, fun v Hf2 H2 k1 k2 k3 k4 k5 k6 rr => ?_⟩
  obtain ⟨s2, x2⟩ := s1.byref e2 h1 k1 k2 k3 k4 k5 k6
  exact q v Hf2 H2 s2 (x1.trans x2) rr
theorem callBF_of {K : KW} {n : Nat} (hn : ∀ Γ ds Γ', fs Γ = some (ds, Γ') → ds.length = n) (σ : L2.St) (H : Hp) (Q : VK) (hq : tF K bs (eCallB G i fs) σ H Q) : tCallC (n + 1) 0 (spB K .fresh G) (tCons (tVar i) (tVs K bs fs)) tNil σ H Q := by
  obtain ⟨Hf, Γ, d, Γ', st, e, q⟩ := hq
  unfold eCallB at e
  rw [Option.bind_eq_some_iff] at e
  obtain ⟨c0, e0, e⟩ := e
  rw [Option.bind_eq_some_iff] at e
  obtain ⟨⟨d1, Γ1⟩, e1, e⟩ := e
  rw [Option.bind_eq_some_iff] at e
  obtain ⟨c, e2, e⟩ := e
  rw [Option.map_eq_some_iff] at e
  obtain ⟨⟨r, c'⟩, e3, e⟩ := e
  cases e
  obtain ⟨m, _⟩ := muD_mu e0
  obtain ⟨h, d0, h1, _⟩ := st.muAt m
  refine ⟨.ref h, h1, Hf, Γ, d1, Γ1, st, e1, fun vs Hf1 H1 s1 x1 r1 => ⟨by rw [List.length_cons, r1.len, hn _ _ _ e1], rfl, ?_⟩⟩
  obtain ⟨m2, g2⟩ := muD_mu e2
  obtain ⟨h', d0', h1', h2', h3', h4', _⟩ := s1.muAt m2
  rw [h1] at h1'
  cases h1'
  rw [g2] at h2'
  cases h2'
  rw [List.append_nil]
  refine ⟨h, vs, Hf1, _, d1, _, c', rfl, s1.fz, h3', h4', r1, e3, fun v Hf2 H2 k1 k2 k3 k4 k5 k6 rr => ?_⟩
  obtain ⟨s2, x2⟩ := s1.byref e2 h1 k1 k2 k3 k4 k5 k6
  obtain ⟨a, rfl, n1, n2, cc⟩ := rr
  exact q a Hf2 H2 s2 (x1.trans x2) (none_back x1 n1) n2 cc
theorem z_callB (c : CallOk X.prog X.w X.K X.mg X.base k x (n + 1) [] (spB X.kw .rest G)) (hgd : X.A.guards = some []) (hr : Room j X.A) (hk : k ≤ j) (hg : Gl X x) (h0 : PE X e (tVar i)) (ha : PA X es (tVs X.kw bs fs)) (hn : ∀ Γ ds Γ', fs Γ = some (ds, Γ') → ds.length = n)
    (hdb : (x == ("__debug__" : Str)) = false := by decide) (he : starEach (e :: es) X.env = (false, eval e X.env) :: starEach es X.env := by rfl) (hpl : (backTo pos (starEach es X.env)).any (·.1) = false := by rfl) :
    PE X (.Call (.Name x p) (e :: es) [] pos) (tZ X.kw bs (eCallB G i fs)) := (pe_c1 c hgd hr hk hg (pa_cons h0 ha he) hdb he hpl).wk fun σ H Q q => callB_of hn σ H Q q
theorem f_callB (c : CallOk X.prog X.w X.K X.mg X.base k x (n + 1) [] (spB X.kw .fresh G)) (hgd : X.A.guards = some []) (hr : Room j X.A) (hk : k ≤ j) (hg : Gl X x) (h0 : PE X e (tVar i)) (ha : PA X es (tVs X.kw bs fs)) (hn : ∀ Γ ds Γ', fs Γ = some (ds, Γ') → ds.length = n)
    (hdb : (x == ("__debug__" : Str)) = false := by decide) (he : starEach (e :: es) X.env = (false, eval e X.env) :: starEach es X.env := by rfl) (hpl : (backTo pos (starEach es X.env)).any (·.1) = false := by rfl) :
    PE X (.Call (.Name x p) (e :: es) [] pos) (tF X.kw bs (eCallB G i fs)) := (pe_c1 c hgd hr hk hg (pa_cons h0 ha he) hdb he hpl).wk fun σ H Q q => callBF_of hn σ H Q q
end
/-! ### repr -/
def reprD : List D → Option D
  | [d] => if (toPy d).plain && ((toPy d).showable && decide ((toPy d).depth ≤ 60) && decide ((toPy d).shown.length ≤ 10000000)) then some (.str (toPy d).shown) else none
  | _ => none
mutual
theorem plain_noDict : ∀ d : PyData, d.plain = true → d.hasDict = false
  | .none, _ => by rw [PyData.hasDict]
  | .bool _, _ => by rw [PyData.hasDict]
  | .int _, _ => by rw [PyData.hasDict]
  | .str _, _ => by rw [PyData.hasDict]
  | .list xs, h => by rw [PyData.plain] at h; rw [PyData.hasDict]; exact plain_noDicts xs h
  | .tuple xs, h => by rw [PyData.plain] at h; rw [PyData.hasDict]; exact plain_noDicts xs h
  | .dict _, h => by cases h
theorem plain_noDicts : ∀ xs : List PyData, PyData.plainAll xs = true → PyData.hasDictAll xs = false
  | [], _ => by rw [PyData.hasDictAll]
  | x :: xs, h => by
    rw [PyData.plainAll, Bool.and_eq_true] at h
    rw [PyData.hasDictAll, plain_noDict x h.1, plain_noDicts xs h.2]
    rfl
end
section
variable {X : Cx} {bs : Bs}
def rReprA (K : KW) : List V → Hp → VK → Prop := fun xs H Q => ∃ (v : V) (d : PyData), xs = [v] ∧ Dp K.f H v d ∧ d.showable = true ∧ d.hasDict = false ∧ d.depth ≤ 60 ∧ d.shown.length ≤ sizeLine ∧ Q (.str d.shown) H
theorem call_reprA (hgd : X.A.guards = some []) (hu : X.A.units + 64 < cLine) : CallR X (.builtin "repr") (rReprA X.kw) := by
  intro pins s σ H xs us Q I r h
  obtain ⟨a, d, rfl, hd, hs, hn, hdep, hz, q⟩ := h
  obtain ⟨u, rfl, rx⟩ := vals1 r
  obtain ⟨as, rd⟩ := Dp.reads I d _ u hd rx
  cases hd with
  | non =>
    cases rx
    rw [PyData.shown] at q
    exact PySem.P.repr_of_none ⟨.str _, H, I.tok _, ⟨_, rfl⟩, q⟩
  | bl b =>
    cases rx
    rw [PyData.shown] at q
    exact PySem.P.repr_of_bool ⟨.str _, H, I.tok _, ⟨_, rfl⟩, q⟩
  | int i =>
    obtain ⟨t, rfl⟩ := rx
    rw [PyData.shown] at q
    rw [PyData.showable, decide_eq_true_eq] at hs
    exact PySem.P.repr_of_int hs ⟨.str _, H, I.tok _, ⟨_, rfl⟩, q⟩
  | str x =>
    obtain ⟨t, rfl⟩ := rx
    rw [PyData.shown] at q hz
    exact PySem.P.repr_of_str ⟨.str _, H, I.tok _, ⟨_, rfl⟩, q⟩ hz
  | lst h1 h2 =>
    cases rx
    exact repr_of_reads' rd hs (PyData.noDict_hsm hn) hgd (by omega) (fun _ _ e => e) (fun h' u tk hk => ⟨.str _, H, I.kept hk, ⟨_, rfl⟩, q⟩) hz
  | tup h1 h2 =>
    cases rx
    exact repr_of_reads' rd hs (PyData.noDict_hsm hn) hgd (by omega) (fun _ _ e => e) (fun h' u tk hk => ⟨.str _, H, I.kept hk, ⟨_, rfl⟩, q⟩) hz
theorem cz_repr (hgd : X.A.guards = some []) (hu : X.A.units + 64 < cLine) : CallR X (.builtin "repr") (rZN X.kw bs reprD) := callWk (call_reprA hgd hu) fun xs H Q h => by
  obtain ⟨σ, Hf, Γ, dx, d, st, rx, e, q⟩ := h
  unfold reprD at e
  split at e
  · split at e
    · rename_i hk
      cases e
      obtain ⟨x, rfl, rx1⟩ := rds1 rx
      rw [Bool.and_eq_true, Bool.and_eq_true, Bool.and_eq_true, decide_eq_true_eq, decide_eq_true_eq] at hk
      exact ⟨x, _, rfl, rd_dp st.fz rx1 hk.1, hk.2.1.1, plain_noDict _ hk.1, hk.2.1.2, szL hk.2.2, q.rest st (.str _)⟩
    · cases e
  · cases e
end
end Zd

set_option maxHeartbeats 4000000
/-! zip of lists and tuples (two, three). -/
namespace Zd
open PySem PySem.Spec PyProof.Rows L2 Pd
def SqA (K : PySem.W.Frag) (H : Hp) (l : Bool) (a : Addr) (xs : List V) : Prop := if l = true then SqL K H a xs else SqT K H a xs
def ItA (h : Heap) (l : Bool) (it a : Addr) (i : Nat) : Prop := if l = true then h.IsListIter it a i else h.IsTupleIter it a i
def IsA (h : Heap) (l : Bool) (a : Addr) (items : Array Value) : Prop := if l = true then h.IsList a items else h.IsTuple a items
theorem itA_obj {h : Heap} {l : Bool} {it a : Addr} {i : Nat} (x : ItA h l it a i) : ∃ o, h.get? it = some o ∧ ∀ v, o.data ≠ .cell v := by
  cases l with
  | true => obtain ⟨o, e, _, d⟩ := (show h.IsListIter it a i from x); exact ⟨o, e, fun v q => by rw [d] at q; cases q⟩
  | false => obtain ⟨o, e, _, d⟩ := (show h.IsTupleIter it a i from x); exact ⟨o, e, fun v q => by rw [d] at q; cases q⟩
theorem itA_at {h h' : Heap} {l : Bool} {it a : Addr} {i : Nat} (x : ItA h l it a i) (k : ∀ o, h.get? it = some o → h'.get? it = some o) : ItA h' l it a i := by
  cases l with
  | true => exact Heap.IsListIter.at (show h.IsListIter it a i from x) k
  | false => exact Heap.IsTupleIter.at (show h.IsTupleIter it a i from x) k
def objA (l : Bool) (a : Addr) : Obj := if l = true then { cls := .type "list_iterator", data := .fields #[.ref a, .int 0 0] } else { cls := .type "tuple_iterator", data := .fields #[.ref a, .int 0 0] }
theorem itA_new {h : Heap} {l : Bool} {it a : Addr} (e : h.get? it = some (objA l a)) : ItA h l it a 0 := by
  cases l with
  | true => exact ⟨_, e, rfl, rfl⟩
  | false => exact ⟨_, e, rfl, rfl⟩
theorem beginsA (l : Bool) (a : Addr) (items : Array Value) : Begins (.ref a) (objA l a) fun h => IsA h l a items := by
  cases l with
  | true => exact begins_list a items
  | false => exact begins_tuple a items
theorem drawsA {prog : Program} {w : World} {A : Around} (hh : A.handled = none) (l : Bool) (it a : Addr) (hne : a ≠ it) (items : Array Value) :
    Draws prog w A it [it, a] items.size (fun i v => items[i]? = some v) (fun i h => ItA h l it a i ∧ IsA h l a items) := by
  cases l with
  | true => exact Draws.list hh it a hne items
  | false => exact Draws.tuple hh it a hne items
section
variable {X : Cx} {pins : List (Addr × Obj)} {σ : L2.St} {H : Hp} {s : Shared} {l : Bool} {a : Addr} {xs ys : List V}
theorem inv_sqA (I : Inv X pins σ H s) (h : SqA X.K H l a xs) : ∃ its : List Value, Vals xs its ∧ IsA s.heap l a its.toArray ∧ a < s.heap.objs.size := by
  cases l with
  | true =>
    obtain ⟨its, r, p, _⟩ := I.list (show SqL X.K H a xs from h)
    exact ⟨its, r, p.isList, p.lt⟩
  | false =>
    obtain ⟨its, r, p, _⟩ := I.tuple (show SqT X.K H a xs from h)
    obtain ⟨o, ho, _⟩ := id p
    exact ⟨its, r, p, Heap.lt_size ho⟩
theorem inv_sqA_inj (I : Inv X pins σ H s) (h : SqA X.K H l a xs) (h' : SqA X.K H l a ys) : xs = ys := by
  cases l with
  | true => exact I.list_inj (show SqL X.K H a xs from h) (show SqL X.K H a ys from h')
  | false => exact I.tuple_inj (show SqT X.K H a xs from h) (show SqT X.K H a ys from h')
end
theorem sqA_mono {K : PySem.W.Frag} {H H' : Hp} {l : Bool} {a : Addr} {xs : List V} (z : Same H H') (h : SqA K H l a xs) : SqA K H' l a xs := by
  cases l with
  | true => exact Same.seq z (show SqL K H a xs from h)
  | false => exact sqT_mono z (show SqT K H a xs from h)
theorem seqD_sq {K : KW} {H : Hp} {v : V} {d : D} {ds : List D} (r : Rep K H v d) (e : seqD d = some ds) : ∃ l a xs, v = .ref a ∧ SqA K.f H l a xs ∧ RepAll K H xs ds := by
  cases d with
  | lst q =>
    cases e
    cases r with
    | lst h hs => exact ⟨true, _, _, rfl, SqL.of h, hs⟩
  | tup q =>
    cases e
    cases r with
    | tup h hs => exact ⟨false, _, _, rfl, h, hs⟩
  | _ => cases e
theorem vals_refs2 {a b : Addr} {us : List Value} (r : Vals [.ref a, .ref b] us) : us = [.ref a, .ref b] := by
  cases r with
  | cons h1 t => cases t with
    | cons h2 t => cases t; cases h1; cases h2; rfl
theorem vals_refs3 {a b c : Addr} {us : List Value} (r : Vals [.ref a, .ref b, .ref c] us) : us = [.ref a, .ref b, .ref c] := by
  cases r with
  | cons h1 t => cases t with
    | cons h2 t => cases t with
      | cons h3 t => cases t; cases h1; cases h2; cases h3; rfl
theorem repAll2 {K : KW} {H : Hp} {vs : List V} {d1 d2 : D} (r : RepAll K H vs [d1, d2]) : ∃ v1 v2, vs = [v1, v2] ∧ Rep K H v1 d1 ∧ Rep K H v2 d2 := by
  cases r with
  | cons h1 t => cases t with
    | cons h2 t => cases t; exact ⟨_, _, rfl, h1, h2⟩
theorem repAll3 {K : KW} {H : Hp} {vs : List V} {d1 d2 d3 : D} (r : RepAll K H vs [d1, d2, d3]) : ∃ v1 v2 v3, vs = [v1, v2, v3] ∧ Rep K H v1 d1 ∧ Rep K H v2 d2 ∧ Rep K H v3 d3 := by
  cases r with
  | cons h1 t => cases t with
    | cons h2 t => cases t with
      | cons h3 t => cases t; exact ⟨_, _, _, rfl, h1, h2, h3⟩
def Itz2 (K : PySem.W.Frag) (l1 : Bool) (a1 : Addr) (l2 : Bool) (a2 : Addr) : It :=
  ⟨fun i H => ∃ (xs1 : List V) (x1 : V), ∃ (xs2 : List V) (x2 : V), SqA K H l1 a1 xs1 ∧ SqA K H l2 a2 xs2 ∧ xs1[i]? = some x1 ∧ xs2[i]? = some x2,
    fun i H v H' => ∃ (T : Addr) (x1 x2 : V), v = .ref T ∧ H T = none ∧ H' = upd H T (.tup [x1, x2]) ∧ (∀ xs, SqA K H l1 a1 xs → xs[i]? = some x1) ∧ (∀ xs, SqA K H l2 a2 xs → xs[i]? = some x2),
    fun i H => ∃ xs1 : List V, ∃ xs2 : List V, SqA K H l1 a1 xs1 ∧ SqA K H l2 a2 xs2 ∧ i ≤ xs1.length ∧ i ≤ xs2.length ∧ (i = xs1.length ∨ i = xs2.length)⟩
theorem turn_zipA2 {P : Program} {w : World} {K : PySem.W.Frag} {elts : List Expr} {kk : Nat} {tpos : Pos} {l1 : Bool} {a1 : Addr} {l2 : Bool} {a2 : Addr} {z TI TO i1 i2 : Addr} (D : ZipSep2 z TI TO i1 i2 [i1, a1] [i2, a2]) (ne1 : a1 ≠ i1) (ne2 : a2 ≠ i2) :
    Turn P w K (.Tuple elts kk tpos) (Itz2 K l1 a1 l2 a2) [z, TI, TO, i1, i2] z (fun i h => IsZip h z TI TO .none ∧ IsTupOf2 h TI (.ref i1) (.ref i2) ∧ (∃ x1 x2, IsTupOf2 h TO x1 x2) ∧ ItA h l1 i1 a1 i ∧ ItA h l2 i2 a2 i) where
  mem := by simp
  obj := fun i h st c hc => by
    obtain ⟨hz, hTI, ⟨x1, x2, hTO⟩, h1, h2⟩ := st
    have e' : c = z ∨ c = TI ∨ c = TO ∨ c = i1 ∨ c = i2 := by simpa using hc
    rcases e' with q | q | q | q | q
    · rw [q]; exact ⟨_, hz, fun v q => nomatch q⟩
    · rw [q]; exact ⟨_, hTI, fun v q => nomatch q⟩
    · rw [q]; exact ⟨_, hTO, fun v q => nomatch q⟩
    · rw [q]; exact itA_obj h1
    · rw [q]; exact itA_obj h2
  keep := fun i h h' st k => by
    obtain ⟨hz, hTI, ⟨x1, x2, hTO⟩, h1, h2⟩ := st
    exact ⟨k z (by simp) _ hz, k TI (by simp) _ hTI, ⟨x1, x2, k TO (by simp) _ hTO⟩, itA_at h1 fun o q => k i1 (by simp) o q, itA_at h2 fun o q => k i2 (by simp) o q⟩
  item := by
    intro X hP hw hK hc i pins s σ H E I hf st hg
    subst hP hw hK
    obtain ⟨hz, hTI, ⟨y1, y2, hTO⟩, h1, h2⟩ := st
    obtain ⟨xs1, x1, xs2, x2, hq1, hq2, hx1, hx2⟩ := hg
    obtain ⟨its1, rv1, p1, lt1⟩ := inv_sqA I hq1
    obtain ⟨u1, hu1, ru1⟩ := rv1.get hx1
    obtain ⟨its2, rv2, p2, lt2⟩ := inv_sqA I hq2
    obtain ⟨u2, hu2, ru2⟩ := rv2.get hx2
    have hh : X.A.in1.handled = none := I.ok.hd hc
    have hzl : z < s.heap.objs.size := Heap.lt_size hz
    refine wpAny_pyNext_zipD2_item D (drawsA hh l1 i1 a1 ne1 its1.toArray) (drawsA hh l2 i2 a2 ne2 its2.toArray) hz hTI hTO ⟨h1, p1⟩ ⟨h2, p2⟩ (by have := (List.getElem?_eq_some_iff.mp hu1).1; simpa using this) (by have := (List.getElem?_eq_some_iff.mp hu2).1; simpa using this) fun v1 v2 h' tk w1 w2 z' TO' h1' h2' hT hsz hk => ?_
    have ev1 : v1 = u1 := by
      have w1' : its1.toArray[i]? = some v1 := w1
      simp only [List.getElem?_toArray] at w1'
      exact Option.some.inj (w1'.symm.trans hu1)
    subst ev1
    have ev2 : v2 = u2 := by
      have w2' : its2.toArray[i]? = some v2 := w2
      simp only [List.getElem?_toArray] at w2'
      exact Option.some.inj (w2'.symm.trans hu2)
    subst ev2
    refine ⟨_, rfl, wpAny_letOwnedTupleGo_zip (s := { s with heap := h', toks := tk }) z' fun h'' z'' sb => ?_⟩
    have hT2 : h''.get? s.heap.objs.size = some { cls := .type "tuple", data := .seq #[v1, v2] } := (sb.2 _ (Nat.ne_of_gt hzl)).trans hT
    have new : ObjOk X.prog X.w (upd H s.heap.objs.size (.tup [x1, x2])) h'' s.heap.objs.size (.tup [x1, x2]) :=
      ⟨by show 2 ≤ sizeLine; decide, [v1, v2], (.cons ru1 (.cons ru2 .nil)), ⟨_, hT2, rfl, _, rfl⟩⟩
    have I1 : Inv X pins σ (upd H s.heap.objs.size (.tup [x1, x2])) { s with heap := h'', toks := tk } :=
      I.turnedNew (t' := tk) (ch := [z, TI, TO, i1, i2]) (fun c o hb q => (sb.2 c (fun q' => hb (by simp [q']))).trans (hk c o (fun q' => hb (by simp [q'])) (fun q' => hb (by simp [q'])) (fun q' => hb (by simp [q'])) (fun q' => hb (by simp [q'])) q)) hf (Nat.le_refl _) new
    refine ⟨.ref s.heap.objs.size, _, I1, rfl, ⟨_, x1, x2, rfl, I.hok.fresh (Nat.le_refl _), rfl, fun l hl => by rw [inv_sqA_inj I hl hq1]; exact hx1, fun l hl => by rw [inv_sqA_inj I hl hq2]; exact hx2⟩, ⟨z'', ?_, ⟨v1, v2, ?_⟩, ?_, ?_⟩, fun c hcm => ?_⟩
    · exact (sb.2 _ D.TIz).trans (hk _ _ D.TIz D.TITO D.TIi1 D.TIi2 hTI)
    · exact (sb.2 _ D.TOz).trans TO'
    · exact itA_at h1'.1 fun o q => (sb.2 _ D.zi1.symm).trans q
    · exact itA_at h2'.1 fun o q => (sb.2 _ D.zi2.symm).trans q
    · have hlt : c < s.heap.objs.size := by
        have e' : c = z ∨ c = TI ∨ c = TO ∨ c = i1 ∨ c = i2 := by simpa using hcm
        rcases e' with q | q | q | q | q
        · rw [q]; exact hzl
        · rw [q]; exact Heap.lt_size hTI
        · rw [q]; exact Heap.lt_size hTO
        · rw [q]; obtain ⟨o, e1, _⟩ := itA_obj h1; exact Heap.lt_size e1
        · rw [q]; obtain ⟨o, e1, _⟩ := itA_obj h2; exact Heap.lt_size e1
      rw [upd_ne (Nat.ne_of_lt hlt)]
      exact (hf c hcm).1
  done := by
    intro X hP hw hK hc i pins s σ H E I hf st hg
    subst hP hw hK
    obtain ⟨hz, hTI, ⟨y1, y2, hTO⟩, h1, h2⟩ := st
    obtain ⟨xs1, xs2, hq1, hq2, le1, le2, hend⟩ := hg
    obtain ⟨its1, rv1, p1, lt1⟩ := inv_sqA I hq1
    have hl1 : its1.toArray.size = xs1.length := by rw [List.size_toArray]; exact rv1.length.symm
    obtain ⟨its2, rv2, p2, lt2⟩ := inv_sqA I hq2
    have hl2 : its2.toArray.size = xs2.length := by rw [List.size_toArray]; exact rv2.length.symm
    have hh : X.A.in1.handled = none := I.ok.hd hc
    refine wpAny_pyNext_zipD2_end D (drawsA hh l1 i1 a1 ne1 its1.toArray) (drawsA hh l2 i2 a2 ne2 its2.toArray) hz hTI hTO ⟨h1, p1⟩ ⟨h2, p2⟩ (by omega) (by omega) (by omega) fun h' tk hk => ⟨rfl, I.turnedL (t' := tk) (ch := [z, TI, TO, i1, i2]) (fun c o hb q => (hk c o (fun q' => hb (by simp [q'])) (fun q' => hb (by simp [q'])) (fun q' => hb (by simp [q'])) (fun q' => hb (by simp [q'])) q)) hf⟩
  self := fun A i s Q E st h => wpAny_pyIter_zip st.1 h
def iZA2 (K : PySem.W.Frag) (ta : TA) : TI := fun σ H R => ta σ H fun vs H1 => ∃ l1 a1 xs1 l2 a2 xs2, vs = [.ref a1, .ref a2] ∧ SqA K H1 l1 a1 xs1 ∧ SqA K H1 l2 a2 xs2 ∧ R (Itz2 K l1 a1 l2 a2) H1
theorem pi_zA2 {X : Cx} {e1 e2 : Expr} {ta : TA} {p pos tpos : Pos} {elts : List Expr} {kk : Nat} (hg : Gl X "zip") (hm : X.mg "zip" = none) (ha : PA X [e1, e2] ta)
    (hs : starEach [e1, e2] X.env = (false, eval e1 X.env) :: starEach [e2] X.env := by rfl) (hpl : (backTo pos (starEach [e2] X.env)).any (·.1) = false := by rfl) :
    PI X (.Tuple elts kk tpos) (.Call (.Name "zip" p) [e1, e2] [] pos) (iZA2 X.K ta) := by
  refine ⟨fun pins s σ H R I h => ?_⟩
  refine Call_ (ld_blt I hg hm PyProof.Rows.boot_zip (PyProof.Rows.callWith_type1 (thn (ha.run pos pins s σ H _ I h) fun us s1 ⟨vs, H1, I1, r1, q1⟩ => ?_) hs hpl))
  obtain ⟨l1, a1, xs1, l2, a2, xs2, ex, hq1, hq2, q⟩ := q1
  subst ex
  obtain rfl : us = [Value.ref a1, Value.ref a2] := vals_refs2 r1
  obtain ⟨its1, rv1, p1, lt1⟩ := inv_sqA I1 hq1
  obtain ⟨its2, rv2, p2, lt2⟩ := inv_sqA I1 hq2
  refine zip_begins2 (beginsA l1 a1 its1.toArray) (beginsA l2 a2 its2.toArray) p1 p2 fun h' hz hTI hTO g1 g2 hsz hk => wpAny_pyIter_zip hz ?_
  have I2 : Inv X pins σ H1 { s1 with heap := h' } := I1.kept (t' := s1.toks) hk
  refine ⟨s1.heap.objs.size + 4, [s1.heap.objs.size + 4, s1.heap.objs.size + 2, s1.heap.objs.size + 3, s1.heap.objs.size, s1.heap.objs.size + 1], _, _, H1, rfl, I2, turn_zipA2 (zip_sep2 (fun b hb => by rw [List.mem_singleton.mp hb]; exact lt1) (fun b hb => by rw [List.mem_singleton.mp hb]; exact lt2)) (Nat.ne_of_lt (lt1)) (Nat.ne_of_lt (Nat.lt_of_lt_of_le lt2 (Nat.le_add_right _ _))), ⟨hz, hTI, ⟨_, _, hTO⟩, itA_new g1, itA_new g2⟩, fun c hcm => ?_, q⟩
  have hle : s1.heap.objs.size ≤ c := by
    have e' : c = s1.heap.objs.size + 4 ∨ c = s1.heap.objs.size + 2 ∨ c = s1.heap.objs.size + 3 ∨ c = s1.heap.objs.size ∨ c = s1.heap.objs.size + 1 := by simpa using hcm
    rcases e' with z | z | z | z | z
    · rw [z]; exact Nat.le_add_right _ _
    · rw [z]; exact Nat.le_add_right _ _
    · rw [z]; exact Nat.le_add_right _ _
    · rw [z]; exact Nat.le_refl _
    · rw [z]; exact Nat.le_add_right _ _
  exact I1.fpOk hle (I1.hok.fresh hle)
def zipL2 : List D → List D → List D
  | d1 :: r1, d2 :: r2 => .tup [d1, d2] :: zipL2 r1 r2
  | _, _ => []
theorem zipL2_get : ∀ {s1 s2 : List D} {i : Nat} {d : D}, (zipL2 s1 s2)[i]? = some d → ∃ d1 d2, d = .tup [d1, d2] ∧ s1[i]? = some d1 ∧ s2[i]? = some d2
  | _ :: _, _ :: _, 0, d, e => by rw [zipL2] at e; simp at e; exact ⟨_, _, e.symm, rfl, rfl⟩
  | _ :: _, _ :: _, i + 1, d, e => by
    rw [zipL2, List.getElem?_cons_succ] at e
    obtain ⟨d1, d2, h, g1, g2⟩ := zipL2_get e
    exact ⟨d1, d2, h, g1, g2⟩
  | [], _, _, d, e => by simp [zipL2] at e
  | _ :: _, [], _, d, e => by simp [zipL2] at e
theorem zipL2_len : ∀ {s1 s2 : List D}, (zipL2 s1 s2).length ≤ s1.length ∧ (zipL2 s1 s2).length ≤ s2.length ∧ ((zipL2 s1 s2).length = s1.length ∨ (zipL2 s1 s2).length = s2.length)
  | _ :: r1, _ :: r2 => by
    have h := zipL2_len (s1 := r1) (s2 := r2)
    rw [zipL2]
    simp only [List.length_cons]
    omega
  | [], _ => by simp [zipL2]
  | _ :: _, [] => by simp [zipL2]
def iZip2 (f : Exs) : Exs := fun Γ => (f Γ).bind fun p => match p.1 with
  | [d1, d2] => (seqD d1).bind fun s1 => (seqD d2).bind fun s2 => (some (zipL2 s1 s2, p.2))
  | _ => none
theorem i_zip2 {X : Cx} {bs : Bs} {e1 e2 : Expr} {fs : Exs} {p pos tpos : Pos} {elts : List Expr} {kk : Nat} (hg : Gl X "zip") (hm : X.mg "zip" = none) (ha : PA X [e1, e2] (tVs X.kw bs fs))
    (hs : starEach [e1, e2] X.env = (false, eval e1 X.env) :: starEach [e2] X.env := by rfl) (hpl : (backTo pos (starEach [e2] X.env)).any (·.1) = false := by rfl) :
    PI X (.Tuple elts kk tpos) (.Call (.Name "zip" p) [e1, e2] [] pos) (tI X.kw bs (iZip2 fs)) := (pi_zA2 hg hm ha hs hpl).wk fun σ H R ⟨Hf, Γ, ds, Γ', s, e, q⟩ => by
  unfold iZip2 at e
  rw [Option.bind_eq_some_iff] at e
  obtain ⟨⟨l, Γ1⟩, e1, e⟩ := e
  split at e
  · rename_i d1 d2 el
    rw [Option.bind_eq_some_iff] at e
    obtain ⟨m1, f1, e⟩ := e
    rw [Option.bind_eq_some_iff] at e
    obtain ⟨m2, f2, e⟩ := e
    cases e
    have el : l = [d1, d2] := el
    subst el
    refine ⟨Hf, Γ, _, _, s, e1, fun vs Hf1 H1 s1 x1 r1 => ?_⟩
    obtain ⟨v1, v2, rfl, r1', r2'⟩ := repAll2 r1
    obtain ⟨l1, a1, xs1, rfl, sq1, rr1⟩ := seqD_sq r1' f1
    obtain ⟨l2, a2, xs2, rfl, sq2, rr2⟩ := seqD_sq r2' f2
    refine ⟨l1, a1, xs1, l2, a2, xs2, rfl, sqA_mono s1.fz sq1, sqA_mono s1.fz sq2, q _ _ _ s1 x1 ?_⟩
    intro σ2 Γ2 Hf2 H2 s2 z2
    have hq1 := sqA_mono (fun a o e => s2.fz a o (z2 a o e)) sq1
    have hq2 := sqA_mono (fun a o e => s2.fz a o (z2 a o e)) sq2
    refine ⟨fun i d hd => ?_, ?_⟩
    · obtain ⟨c1, c2, rfl, g1, g2⟩ := zipL2_get hd
      obtain ⟨y1, hy1, ry1⟩ := rr1.getD g1
      obtain ⟨y2, hy2, ry2⟩ := rr2.getD g2
      refine ⟨⟨xs1, y1, xs2, y2, hq1, hq2, hy1, hy2⟩, fun x H3 hyl => ?_⟩
      obtain ⟨T, w1, w2, rfl, hT, rfl, k1, k2⟩ := hyl
      obtain rfl : y1 = w1 := Option.some.inj (hy1.symm.trans (k1 _ hq1))
      obtain rfl : y2 = w2 := Option.some.inj (hy2.symm.trans (k2 _ hq2))
      have z3 := z2.trans (sameNew (o := .tup [y1, y2]) (s2.fnone hT))
      exact ⟨_, s2.laid hT, s2.laidX hT, .tup (SqT.of upd_same) (.cons (ry1.mono z3) (.cons (ry2.mono z3) .nil))⟩
    · have hl := zipL2_len (s1 := m1) (s2 := m2)
      have n1 := rr1.len
      have n2 := rr2.len
      exact ⟨xs1, xs2, hq1, hq2, by omega, by omega, by omega⟩
  · cases e
def Itz3 (K : PySem.W.Frag) (l1 : Bool) (a1 : Addr) (l2 : Bool) (a2 : Addr) (l3 : Bool) (a3 : Addr) : It :=
  ⟨fun i H => ∃ (xs1 : List V) (x1 : V), ∃ (xs2 : List V) (x2 : V), ∃ (xs3 : List V) (x3 : V), SqA K H l1 a1 xs1 ∧ SqA K H l2 a2 xs2 ∧ SqA K H l3 a3 xs3 ∧ xs1[i]? = some x1 ∧ xs2[i]? = some x2 ∧ xs3[i]? = some x3,
    fun i H v H' => ∃ (T : Addr) (x1 x2 x3 : V), v = .ref T ∧ H T = none ∧ H' = upd H T (.tup [x1, x2, x3]) ∧ (∀ xs, SqA K H l1 a1 xs → xs[i]? = some x1) ∧ (∀ xs, SqA K H l2 a2 xs → xs[i]? = some x2) ∧ (∀ xs, SqA K H l3 a3 xs → xs[i]? = some x3),
    fun i H => ∃ xs1 : List V, ∃ xs2 : List V, ∃ xs3 : List V, SqA K H l1 a1 xs1 ∧ SqA K H l2 a2 xs2 ∧ SqA K H l3 a3 xs3 ∧ i ≤ xs1.length ∧ i ≤ xs2.length ∧ i ≤ xs3.length ∧ (i = xs1.length ∨ i = xs2.length ∨ i = xs3.length)⟩
theorem turn_zipA3 {P : Program} {w : World} {K : PySem.W.Frag} {elts : List Expr} {kk : Nat} {tpos : Pos} {l1 : Bool} {a1 : Addr} {l2 : Bool} {a2 : Addr} {l3 : Bool} {a3 : Addr} {z TI TO i1 i2 i3 : Addr} (D : ZipSep3 z TI TO i1 i2 i3 [i1, a1] [i2, a2] [i3, a3]) (ne1 : a1 ≠ i1) (ne2 : a2 ≠ i2) (ne3 : a3 ≠ i3) :
    Turn P w K (.Tuple elts kk tpos) (Itz3 K l1 a1 l2 a2 l3 a3) [z, TI, TO, i1, i2, i3] z (fun i h => IsZip h z TI TO .none ∧ IsTupOf3 h TI (.ref i1) (.ref i2) (.ref i3) ∧ (∃ x1 x2 x3, IsTupOf3 h TO x1 x2 x3) ∧ ItA h l1 i1 a1 i ∧ ItA h l2 i2 a2 i ∧ ItA h l3 i3 a3 i) where
  mem := by simp
  obj := fun i h st c hc => by
    obtain ⟨hz, hTI, ⟨x1, x2, x3, hTO⟩, h1, h2, h3⟩ := st
    have e' : c = z ∨ c = TI ∨ c = TO ∨ c = i1 ∨ c = i2 ∨ c = i3 := by simpa using hc
    rcases e' with q | q | q | q | q | q
    · rw [q]; exact ⟨_, hz, fun v q => nomatch q⟩
    · rw [q]; exact ⟨_, hTI, fun v q => nomatch q⟩
    · rw [q]; exact ⟨_, hTO, fun v q => nomatch q⟩
    · rw [q]; exact itA_obj h1
    · rw [q]; exact itA_obj h2
    · rw [q]; exact itA_obj h3
  keep := fun i h h' st k => by
    obtain ⟨hz, hTI, ⟨x1, x2, x3, hTO⟩, h1, h2, h3⟩ := st
    exact ⟨k z (by simp) _ hz, k TI (by simp) _ hTI, ⟨x1, x2, x3, k TO (by simp) _ hTO⟩, itA_at h1 fun o q => k i1 (by simp) o q, itA_at h2 fun o q => k i2 (by simp) o q, itA_at h3 fun o q => k i3 (by simp) o q⟩
  item := by
    intro X hP hw hK hc i pins s σ H E I hf st hg
    subst hP hw hK
    obtain ⟨hz, hTI, ⟨y1, y2, y3, hTO⟩, h1, h2, h3⟩ := st
    obtain ⟨xs1, x1, xs2, x2, xs3, x3, hq1, hq2, hq3, hx1, hx2, hx3⟩ := hg
    obtain ⟨its1, rv1, p1, lt1⟩ := inv_sqA I hq1
    obtain ⟨u1, hu1, ru1⟩ := rv1.get hx1
    obtain ⟨its2, rv2, p2, lt2⟩ := inv_sqA I hq2
    obtain ⟨u2, hu2, ru2⟩ := rv2.get hx2
    obtain ⟨its3, rv3, p3, lt3⟩ := inv_sqA I hq3
    obtain ⟨u3, hu3, ru3⟩ := rv3.get hx3
    have hh : X.A.in1.handled = none := I.ok.hd hc
    have hzl : z < s.heap.objs.size := Heap.lt_size hz
    refine wpAny_pyNext_zipD3_item D (drawsA hh l1 i1 a1 ne1 its1.toArray) (drawsA hh l2 i2 a2 ne2 its2.toArray) (drawsA hh l3 i3 a3 ne3 its3.toArray) hz hTI hTO ⟨h1, p1⟩ ⟨h2, p2⟩ ⟨h3, p3⟩ (by have := (List.getElem?_eq_some_iff.mp hu1).1; simpa using this) (by have := (List.getElem?_eq_some_iff.mp hu2).1; simpa using this) (by have := (List.getElem?_eq_some_iff.mp hu3).1; simpa using this) fun v1 v2 v3 h' tk w1 w2 w3 z' TO' h1' h2' h3' hT hsz hk => ?_
    have ev1 : v1 = u1 := by
      have w1' : its1.toArray[i]? = some v1 := w1
      simp only [List.getElem?_toArray] at w1'
      exact Option.some.inj (w1'.symm.trans hu1)
    subst ev1
    have ev2 : v2 = u2 := by
      have w2' : its2.toArray[i]? = some v2 := w2
      simp only [List.getElem?_toArray] at w2'
      exact Option.some.inj (w2'.symm.trans hu2)
    subst ev2
    have ev3 : v3 = u3 := by
      have w3' : its3.toArray[i]? = some v3 := w3
      simp only [List.getElem?_toArray] at w3'
      exact Option.some.inj (w3'.symm.trans hu3)
    subst ev3
    refine ⟨_, rfl, wpAny_letOwnedTupleGo_zip (s := { s with heap := h', toks := tk }) z' fun h'' z'' sb => ?_⟩
    have hT2 : h''.get? s.heap.objs.size = some { cls := .type "tuple", data := .seq #[v1, v2, v3] } := (sb.2 _ (Nat.ne_of_gt hzl)).trans hT
    have new : ObjOk X.prog X.w (upd H s.heap.objs.size (.tup [x1, x2, x3])) h'' s.heap.objs.size (.tup [x1, x2, x3]) :=
      ⟨by show 3 ≤ sizeLine; decide, [v1, v2, v3], (.cons ru1 (.cons ru2 (.cons ru3 .nil))), ⟨_, hT2, rfl, _, rfl⟩⟩
    have I1 : Inv X pins σ (upd H s.heap.objs.size (.tup [x1, x2, x3])) { s with heap := h'', toks := tk } :=
      I.turnedNew (t' := tk) (ch := [z, TI, TO, i1, i2, i3]) (fun c o hb q => (sb.2 c (fun q' => hb (by simp [q']))).trans (hk c o (fun q' => hb (by simp [q'])) (fun q' => hb (by simp [q'])) (fun q' => hb (by simp [q'])) (fun q' => hb (by simp [q'])) (fun q' => hb (by simp [q'])) q)) hf (Nat.le_refl _) new
    refine ⟨.ref s.heap.objs.size, _, I1, rfl, ⟨_, x1, x2, x3, rfl, I.hok.fresh (Nat.le_refl _), rfl, fun l hl => by rw [inv_sqA_inj I hl hq1]; exact hx1, fun l hl => by rw [inv_sqA_inj I hl hq2]; exact hx2, fun l hl => by rw [inv_sqA_inj I hl hq3]; exact hx3⟩, ⟨z'', ?_, ⟨v1, v2, v3, ?_⟩, ?_, ?_, ?_⟩, fun c hcm => ?_⟩
    · exact (sb.2 _ D.TIz).trans (hk _ _ D.TIz D.TITO D.TIi1 D.TIi2 D.TIi3 hTI)
    · exact (sb.2 _ D.TOz).trans TO'
    · exact itA_at h1'.1 fun o q => (sb.2 _ D.zi1.symm).trans q
    · exact itA_at h2'.1 fun o q => (sb.2 _ D.zi2.symm).trans q
    · exact itA_at h3'.1 fun o q => (sb.2 _ D.zi3.symm).trans q
    · have hlt : c < s.heap.objs.size := by
        have e' : c = z ∨ c = TI ∨ c = TO ∨ c = i1 ∨ c = i2 ∨ c = i3 := by simpa using hcm
        rcases e' with q | q | q | q | q | q
        · rw [q]; exact hzl
        · rw [q]; exact Heap.lt_size hTI
        · rw [q]; exact Heap.lt_size hTO
        · rw [q]; obtain ⟨o, e1, _⟩ := itA_obj h1; exact Heap.lt_size e1
        · rw [q]; obtain ⟨o, e1, _⟩ := itA_obj h2; exact Heap.lt_size e1
        · rw [q]; obtain ⟨o, e1, _⟩ := itA_obj h3; exact Heap.lt_size e1
      rw [upd_ne (Nat.ne_of_lt hlt)]
      exact (hf c hcm).1
  done := by
    intro X hP hw hK hc i pins s σ H E I hf st hg
    subst hP hw hK
    obtain ⟨hz, hTI, ⟨y1, y2, y3, hTO⟩, h1, h2, h3⟩ := st
    obtain ⟨xs1, xs2, xs3, hq1, hq2, hq3, le1, le2, le3, hend⟩ := hg
    obtain ⟨its1, rv1, p1, lt1⟩ := inv_sqA I hq1
    have hl1 : its1.toArray.size = xs1.length := by rw [List.size_toArray]; exact rv1.length.symm
    obtain ⟨its2, rv2, p2, lt2⟩ := inv_sqA I hq2
    have hl2 : its2.toArray.size = xs2.length := by rw [List.size_toArray]; exact rv2.length.symm
    obtain ⟨its3, rv3, p3, lt3⟩ := inv_sqA I hq3
    have hl3 : its3.toArray.size = xs3.length := by rw [List.size_toArray]; exact rv3.length.symm
    have hh : X.A.in1.handled = none := I.ok.hd hc
    refine wpAny_pyNext_zipD3_end D (drawsA hh l1 i1 a1 ne1 its1.toArray) (drawsA hh l2 i2 a2 ne2 its2.toArray) (drawsA hh l3 i3 a3 ne3 its3.toArray) hz hTI hTO ⟨h1, p1⟩ ⟨h2, p2⟩ ⟨h3, p3⟩ (by omega) (by omega) (by omega) (by omega) fun h' tk hk => ⟨rfl, I.turnedL (t' := tk) (ch := [z, TI, TO, i1, i2, i3]) (fun c o hb q => (hk c o (fun q' => hb (by simp [q'])) (fun q' => hb (by simp [q'])) (fun q' => hb (by simp [q'])) (fun q' => hb (by simp [q'])) (fun q' => hb (by simp [q'])) q)) hf⟩
  self := fun A i s Q E st h => wpAny_pyIter_zip st.1 h
def iZA3 (K : PySem.W.Frag) (ta : TA) : TI := fun σ H R => ta σ H fun vs H1 => ∃ l1 a1 xs1 l2 a2 xs2 l3 a3 xs3, vs = [.ref a1, .ref a2, .ref a3] ∧ SqA K H1 l1 a1 xs1 ∧ SqA K H1 l2 a2 xs2 ∧ SqA K H1 l3 a3 xs3 ∧ R (Itz3 K l1 a1 l2 a2 l3 a3) H1
theorem pi_zA3 {X : Cx} {e1 e2 e3 : Expr} {ta : TA} {p pos tpos : Pos} {elts : List Expr} {kk : Nat} (hg : Gl X "zip") (hm : X.mg "zip" = none) (ha : PA X [e1, e2, e3] ta)
    (hs : starEach [e1, e2, e3] X.env = (false, eval e1 X.env) :: starEach [e2, e3] X.env := by rfl) (hpl : (backTo pos (starEach [e2, e3] X.env)).any (·.1) = false := by rfl) :
    PI X (.Tuple elts kk tpos) (.Call (.Name "zip" p) [e1, e2, e3] [] pos) (iZA3 X.K ta) := by
  refine ⟨fun pins s σ H R I h => ?_⟩
  refine Call_ (ld_blt I hg hm PyProof.Rows.boot_zip (PyProof.Rows.callWith_type1 (thn (ha.run pos pins s σ H _ I h) fun us s1 ⟨vs, H1, I1, r1, q1⟩ => ?_) hs hpl))
  obtain ⟨l1, a1, xs1, l2, a2, xs2, l3, a3, xs3, ex, hq1, hq2, hq3, q⟩ := q1
  subst ex
  obtain rfl : us = [Value.ref a1, Value.ref a2, Value.ref a3] := vals_refs3 r1
  obtain ⟨its1, rv1, p1, lt1⟩ := inv_sqA I1 hq1
  obtain ⟨its2, rv2, p2, lt2⟩ := inv_sqA I1 hq2
  obtain ⟨its3, rv3, p3, lt3⟩ := inv_sqA I1 hq3
  refine zip_begins3 (beginsA l1 a1 its1.toArray) (beginsA l2 a2 its2.toArray) (beginsA l3 a3 its3.toArray) p1 p2 p3 fun h' hz hTI hTO g1 g2 g3 hsz hk => wpAny_pyIter_zip hz ?_
  have I2 : Inv X pins σ H1 { s1 with heap := h' } := I1.kept (t' := s1.toks) hk
  refine ⟨s1.heap.objs.size + 5, [s1.heap.objs.size + 5, s1.heap.objs.size + 3, s1.heap.objs.size + 4, s1.heap.objs.size, s1.heap.objs.size + 1, s1.heap.objs.size + 2], _, _, H1, rfl, I2, turn_zipA3 (zip_sep3 (fun b hb => by rw [List.mem_singleton.mp hb]; exact lt1) (fun b hb => by rw [List.mem_singleton.mp hb]; exact lt2) (fun b hb => by rw [List.mem_singleton.mp hb]; exact lt3)) (Nat.ne_of_lt (lt1)) (Nat.ne_of_lt (Nat.lt_of_lt_of_le lt2 (Nat.le_add_right _ _))) (Nat.ne_of_lt (Nat.lt_of_lt_of_le lt3 (Nat.le_add_right _ _))), ⟨hz, hTI, ⟨_, _, _, hTO⟩, itA_new g1, itA_new g2, itA_new g3⟩, fun c hcm => ?_, q⟩
  have hle : s1.heap.objs.size ≤ c := by
    have e' : c = s1.heap.objs.size + 5 ∨ c = s1.heap.objs.size + 3 ∨ c = s1.heap.objs.size + 4 ∨ c = s1.heap.objs.size ∨ c = s1.heap.objs.size + 1 ∨ c = s1.heap.objs.size + 2 := by simpa using hcm
    rcases e' with z | z | z | z | z | z
    · rw [z]; exact Nat.le_add_right _ _
    · rw [z]; exact Nat.le_add_right _ _
    · rw [z]; exact Nat.le_add_right _ _
    · rw [z]; exact Nat.le_refl _
    · rw [z]; exact Nat.le_add_right _ _
    · rw [z]; exact Nat.le_add_right _ _
  exact I1.fpOk hle (I1.hok.fresh hle)
def zipL3 : List D → List D → List D → List D
  | d1 :: r1, d2 :: r2, d3 :: r3 => .tup [d1, d2, d3] :: zipL3 r1 r2 r3
  | _, _, _ => []
theorem zipL3_get : ∀ {s1 s2 s3 : List D} {i : Nat} {d : D}, (zipL3 s1 s2 s3)[i]? = some d → ∃ d1 d2 d3, d = .tup [d1, d2, d3] ∧ s1[i]? = some d1 ∧ s2[i]? = some d2 ∧ s3[i]? = some d3
  | _ :: _, _ :: _, _ :: _, 0, d, e => by rw [zipL3] at e; simp at e; exact ⟨_, _, _, e.symm, rfl, rfl, rfl⟩
  | _ :: _, _ :: _, _ :: _, i + 1, d, e => by
    rw [zipL3, List.getElem?_cons_succ] at e
    obtain ⟨d1, d2, d3, h, g1, g2, g3⟩ := zipL3_get e
    exact ⟨d1, d2, d3, h, g1, g2, g3⟩
  | [], _, _, _, d, e => by simp [zipL3] at e
  | _ :: _, [], _, _, d, e => by simp [zipL3] at e
  | _ :: _, _ :: _, [], _, d, e => by simp [zipL3] at e
theorem zipL3_len : ∀ {s1 s2 s3 : List D}, (zipL3 s1 s2 s3).length ≤ s1.length ∧ (zipL3 s1 s2 s3).length ≤ s2.length ∧ (zipL3 s1 s2 s3).length ≤ s3.length ∧ ((zipL3 s1 s2 s3).length = s1.length ∨ (zipL3 s1 s2 s3).length = s2.length ∨ (zipL3 s1 s2 s3).length = s3.length)
  | _ :: r1, _ :: r2, _ :: r3 => by
    have h := zipL3_len (s1 := r1) (s2 := r2) (s3 := r3)
    rw [zipL3]
    simp only [List.length_cons]
    omega
  | [], _, _ => by simp [zipL3]
  | _ :: _, [], _ => by simp [zipL3]
  | _ :: _, _ :: _, [] => by simp [zipL3]
def iZip3 (f : Exs) : Exs := fun Γ => (f Γ).bind fun p => match p.1 with
  | [d1, d2, d3] => (seqD d1).bind fun s1 => (seqD d2).bind fun s2 => (seqD d3).bind fun s3 => (some (zipL3 s1 s2 s3, p.2))
  | _ => none
theorem i_zip3 {X : Cx} {bs : Bs} {e1 e2 e3 : Expr} {fs : Exs} {p pos tpos : Pos} {elts : List Expr} {kk : Nat} (hg : Gl X "zip") (hm : X.mg "zip" = none) (ha : PA X [e1, e2, e3] (tVs X.kw bs fs))
    (hs : starEach [e1, e2, e3] X.env = (false, eval e1 X.env) :: starEach [e2, e3] X.env := by rfl) (hpl : (backTo pos (starEach [e2, e3] X.env)).any (·.1) = false := by rfl) :
    PI X (.Tuple elts kk tpos) (.Call (.Name "zip" p) [e1, e2, e3] [] pos) (tI X.kw bs (iZip3 fs)) := (pi_zA3 hg hm ha hs hpl).wk fun σ H R ⟨Hf, Γ, ds, Γ', s, e, q⟩ => by
  unfold iZip3 at e
  rw [Option.bind_eq_some_iff] at e
  obtain ⟨⟨l, Γ1⟩, e1, e⟩ := e
  split at e
  · rename_i d1 d2 d3 el
    rw [Option.bind_eq_some_iff] at e
    obtain ⟨m1, f1, e⟩ := e
    rw [Option.bind_eq_some_iff] at e
    obtain ⟨m2, f2, e⟩ := e
    rw [Option.bind_eq_some_iff] at e
    obtain ⟨m3, f3, e⟩ := e
    cases e
    have el : l = [d1, d2, d3] := el
    subst el
    refine ⟨Hf, Γ, _, _, s, e1, fun vs Hf1 H1 s1 x1 r1 => ?_⟩
    obtain ⟨v1, v2, v3, rfl, r1', r2', r3'⟩ := repAll3 r1
    obtain ⟨l1, a1, xs1, rfl, sq1, rr1⟩ := seqD_sq r1' f1
    obtain ⟨l2, a2, xs2, rfl, sq2, rr2⟩ := seqD_sq r2' f2
    obtain ⟨l3, a3, xs3, rfl, sq3, rr3⟩ := seqD_sq r3' f3
    refine ⟨l1, a1, xs1, l2, a2, xs2, l3, a3, xs3, rfl, sqA_mono s1.fz sq1, sqA_mono s1.fz sq2, sqA_mono s1.fz sq3, q _ _ _ s1 x1 ?_⟩
    intro σ2 Γ2 Hf2 H2 s2 z2
    have hq1 := sqA_mono (fun a o e => s2.fz a o (z2 a o e)) sq1
    have hq2 := sqA_mono (fun a o e => s2.fz a o (z2 a o e)) sq2
    have hq3 := sqA_mono (fun a o e => s2.fz a o (z2 a o e)) sq3
    refine ⟨fun i d hd => ?_, ?_⟩
    · obtain ⟨c1, c2, c3, rfl, g1, g2, g3⟩ := zipL3_get hd
      obtain ⟨y1, hy1, ry1⟩ := rr1.getD g1
      obtain ⟨y2, hy2, ry2⟩ := rr2.getD g2
      obtain ⟨y3, hy3, ry3⟩ := rr3.getD g3
      refine ⟨⟨xs1, y1, xs2, y2, xs3, y3, hq1, hq2, hq3, hy1, hy2, hy3⟩, fun x H3 hyl => ?_⟩
      obtain ⟨T, w1, w2, w3, rfl, hT, rfl, k1, k2, k3⟩ := hyl
      obtain rfl : y1 = w1 := Option.some.inj (hy1.symm.trans (k1 _ hq1))
      obtain rfl : y2 = w2 := Option.some.inj (hy2.symm.trans (k2 _ hq2))
      obtain rfl : y3 = w3 := Option.some.inj (hy3.symm.trans (k3 _ hq3))
      have z3 := z2.trans (sameNew (o := .tup [y1, y2, y3]) (s2.fnone hT))
      exact ⟨_, s2.laid hT, s2.laidX hT, .tup (SqT.of upd_same) (.cons (ry1.mono z3) (.cons (ry2.mono z3) (.cons (ry3.mono z3) .nil)))⟩
    · have hl := zipL3_len (s1 := m1) (s2 := m2) (s3 := m3)
      have n1 := rr1.len
      have n2 := rr2.len
      have n3 := rr3.len
      exact ⟨xs1, xs2, xs3, hq1, hq2, hq3, by omega, by omega, by omega, by omega⟩
  · cases e
end Zd

set_option maxHeartbeats 4000000
/-! a, b = x, y; range with a step; index; a def in a slot. -/
namespace Zd
open PySem PySem.Spec PyProof.Rows L2 Pd
/-! ### several names at once -/
abbrev Qx := Gm → Option (List (Nat × Sl) × Gm)
def qN : Qx := fun Γ => some ([], Γ)
def qV (i : Nat) (f : Ex) (q : Qx) : Qx := fun Γ => (f Γ).bind fun p => (q p.2).map fun r => ((i, .val p.1) :: r.1, r.2)
def qO (i : Nat) (f : Ex) (q : Qx) : Qx := fun Γ => (f Γ).bind fun p => (q p.2).map fun r => ((i, .own p.1) :: r.1, r.2)
def setAll (Γ : Gm) : List (Nat × Sl) → Gm
  | [] => Γ
  | p :: r => setAll (Γ.set p.1 p.2) r
def sPar (q : Qx) : Sx := fun Γ => (q Γ).map fun p => (.nx, setAll p.2 p.1)
inductive PartsR (K : KW) (H Hf' H' : Hp) : List V → List (Nat × Sl) → List Addr → Prop
  | nil : PartsR K H Hf' H' [] [] []
  | val {v : V} {vs : List V} {i : Nat} {d : D} {ps : List (Nat × Sl)} {as : List Addr} (h : Rep K Hf' v d) (t : PartsR K H Hf' H' vs ps as) : PartsR K H Hf' H' (v :: vs) ((i, .val d) :: ps) as
  | own {a : Addr} {vs : List V} {i : Nat} {d : D} {ps : List (Nat × Sl)} {as : List Addr} (h0 : H a = none) (h1 : Hf' a = none) (h2 : Cont K Hf' H' a d) (h3 : a ∉ as) (t : PartsR K H Hf' H' vs ps as) : PartsR K H Hf' H' (.ref a :: vs) ((i, .own d) :: ps) (a :: as)
def tQ (K : KW) (b : Bs) (q : Qx) : TA := fun σ H Q => ∃ Hf Γ ps Γ', StR K b Hf H σ Γ ∧ q Γ = some (ps, Γ') ∧ ∀ vs as Hf' H', StR K b Hf' H' σ Γ' → Ext σ Γ Γ' Hf H Hf' H' → PartsR K H Hf' H' vs ps as → Q vs H'
structure PQ (X : Cx) (b : Bs) (es : List Expr) (is : List Nat) (q : Qx) : Prop where
  run : PA X es (tQ X.kw b q)
  sl : ∀ Γ ps Γ', q Γ = some (ps, Γ') → ps.map (·.1) = is
section
variable {K : KW} {b : Bs} {Hf H Hf' H' H1 : Hp} {σ : L2.St} {Γ Γ' : Gm}
theorem PartsR.back {vs : List V} {ps : List (Nat × Sl)} {as : List Addr} (h : ∀ a, H1 a = none → H a = none) (r : PartsR K H1 Hf' H' vs ps as) : PartsR K H Hf' H' vs ps as := by
  induction r with
  | nil => exact .nil
  | val h1 _ ih => exact .val h1 ih
  | own h0 h1 h2 h3 _ ih => exact .own (h _ h0) h1 h2 h3 ih
theorem PartsR.notin {vs : List V} {ps : List (Nat × Sl)} {as : List Addr} {a : Addr} {o : HO} (e : H a = some o) (r : PartsR K H Hf' H' vs ps as) : a ∉ as := by
  induction r with
  | nil => simp
  | val h1 _ ih => exact ih
  | own h0 h1 h2 h3 _ ih =>
    rw [List.mem_cons, not_or]
    exact ⟨fun z => (by subst z; rw [h0] at e; cases e), ih⟩
def setVs (σ : L2.St) : List Nat → List V → L2.St
  | i :: is, v :: vs => setVs (σ.set i (some v)) is vs
  | _, _ => σ
theorem StR.setAll {vs : List V} {ps : List (Nat × Sl)} {as : List Addr} (r : PartsR K H Hf' H' vs ps as) : ∀ {σ : L2.St} {Γ : Gm}, StR K b Hf' H' σ Γ → (∀ a ∈ as, b.B a = none ∧ ∀ j, mu Γ j → σ[j]? ≠ some (some (.ref a))) → StR K b Hf' H' (setVs σ (ps.map (·.1)) vs) (Zd.setAll Γ ps) := by
  induction r with
  | nil => intro σ Γ s _; exact s
  | val h1 _ ih =>
    intro σ Γ s hn
    refine ih (s.setV h1) fun a ha => ⟨(hn a ha).1, fun j m ej => ?_⟩
    obtain ⟨hj, m'⟩ := mu_val m
    rw [List.getElem?_set_ne (Ne.symm hj)] at ej
    exact (hn a ha).2 j m' ej
  | own h0 h1 h2 h3 _ ih =>
    intro σ Γ s hn
    rename_i a vs i d ps as _
    obtain ⟨hb, hm⟩ := hn a List.mem_cons_self
    refine ih (s.setO h1 h2 hb hm) fun c hc => ⟨(hn c (List.mem_cons_of_mem _ hc)).1, fun j m ej => ?_⟩
    by_cases hj : j = i
    · subst hj
      have hl : j < σ.length := by have := (List.getElem?_eq_some_iff.mp ej).1; rwa [List.length_set] at this
      rw [List.getElem?_set_self hl] at ej
      cases ej
      exact h3 hc
    · rw [List.getElem?_set_ne (Ne.symm hj)] at ej
      exact (hn c (List.mem_cons_of_mem _ hc)).2 j (mu_set m hj) ej
end
section
variable {X : Cx} {bs : Bs} {fr : Md} {a b c e o tg it : Expr} {es rest : List Expr} {pos p2 apos cpos : Pos} {f g h : Ex} {fo go ho : Ox} {fs : Exs} {os : Oxs} {x y z : Str} {i j l : Nat} {q : Qx} {is : List Nat}
theorem q_nil : PQ X bs [] [] qN := ⟨pa_nil.wk fun σ H Q ⟨Hf, Γ, ps, Γ', s, e, w⟩ => by
  have e : some (([] : List (Nat × Sl)), Γ) = some (ps, Γ') := e
  cases e
  exact w [] [] Hf H s Ext.refl .nil, fun Γ ps Γ' e => by
  have e : some (([] : List (Nat × Sl)), Γ) = some (ps, Γ') := e
  cases e
  rfl⟩
theorem q_val (h1 : PE X e (tZ X.kw bs f)) (h2 : PQ X bs es is q) (hs : starEach (e :: es) X.env = (false, eval e X.env) :: starEach es X.env := by rfl) : PQ X bs (e :: es) (i :: is) (qV i f q) := ⟨(pa_cons h1 h2.run hs).wk fun σ H Q ⟨Hf, Γ, ps, Γ', s, e, w⟩ => by
  unfold qV at e
  rw [Option.bind_eq_some_iff] at e
  obtain ⟨⟨d, Γ1⟩, e1, e⟩ := e
  rw [Option.map_eq_some_iff] at e
  obtain ⟨⟨r, Γ2⟩, e2, e⟩ := e
  cases e
  refine ⟨Hf, Γ, d, Γ1, s, e1, fun v Hf1 H1 s1 x1 r1 => ⟨Hf1, Γ1, r, Γ2, s1, e2, fun vs as Hf2 H2 s2 x2 r2 => w _ as Hf2 H2 s2 (x1.trans x2) (.val (r1.mono x2.f) (r2.back fun a ha => none_back x1 ha))⟩⟩, fun Γ ps Γ' e => by
  unfold qV at e
  rw [Option.bind_eq_some_iff] at e
  obtain ⟨⟨d, Γ1⟩, e1, e⟩ := e
  rw [Option.map_eq_some_iff] at e
  obtain ⟨⟨r, Γ2⟩, e2, e⟩ := e
  cases e
  exact congrArg (i :: ·) (h2.sl _ _ _ e2)⟩
theorem q_own (h1 : PE X e (tF X.kw bs f)) (h2 : PQ X bs es is q) (hs : starEach (e :: es) X.env = (false, eval e X.env) :: starEach es X.env := by rfl) : PQ X bs (e :: es) (i :: is) (qO i f q) := ⟨(pa_cons h1 h2.run hs).wk fun σ H Q ⟨Hf, Γ, ps, Γ', s, e, w⟩ => by
  unfold qO at e
  rw [Option.bind_eq_some_iff] at e
  obtain ⟨⟨d, Γ1⟩, e1, e⟩ := e
  rw [Option.map_eq_some_iff] at e
  obtain ⟨⟨r, Γ2⟩, e2, e⟩ := e
  cases e
  refine ⟨Hf, Γ, d, Γ1, s, e1, fun a Hf1 H1 s1 x1 n1 n2 c1 => ⟨Hf1, Γ1, r, Γ2, s1, e2, fun vs as Hf2 H2 s2 x2 r2 => w _ (a :: as) Hf2 H2 s2 (x1.trans x2) ?_⟩⟩
  obtain ⟨o1, eo⟩ := c1.is
  have hm : ∀ j, mu Γ1 j → σ[j]? ≠ some (some (.ref a)) := fun j m ej => s.mune (x1.k j m) ej n1 rfl
  have h2a : H2 a = some o1 := x2.h a o1 eo hm
  have hf2 : Hf2 a = none := by
    cases w : Hf2 a with
    | none => rfl
    | some u =>
      rcases x2.n a u w with z | z
      · rw [n2] at z; cases z
      · rw [eo] at z; cases z
  exact .own n1 hf2 (c1.mono x2.f (by rw [h2a, eo])) (r2.notin eo) (r2.back fun a ha => none_back x1 ha), fun Γ ps Γ' e => by
  unfold qO at e
  rw [Option.bind_eq_some_iff] at e
  obtain ⟨⟨d, Γ1⟩, e1, e⟩ := e
  rw [Option.map_eq_some_iff] at e
  obtain ⟨⟨r, Γ2⟩, e2, e⟩ := e
  cases e
  exact congrArg (i :: ·) (h2.sl _ _ _ e2)⟩
theorem par_of (hq : PQ X bs es is q) (D : Ends) (σ : L2.St) (H : Hp) (w : tS X.kw bs fr (sPar q) D σ H) : tQ X.kw bs q σ H fun vs H1 => vs.length = is.length ∧ D.nx (setVs σ is vs) H1 := by
  obtain ⟨Hf, Γ, fl, Γ', s, e, w⟩ := w
  unfold sPar at e
  rw [Option.map_eq_some_iff] at e
  obtain ⟨⟨ps, Γ1⟩, e1, e⟩ := e
  cases e
  have hsl := hq.sl _ _ _ e1
  refine ⟨Hf, Γ, ps, Γ1, s, e1, fun vs as Hf1 H1 s1 x1 r1 => ?_⟩
  have hl : vs.length = ps.length := by
    clear hsl e1 w
    induction r1 with
    | nil => rfl
    | val _ _ ih => exact congrArg Nat.succ ih
    | own _ _ _ _ _ ih => exact congrArg Nat.succ ih
  have hN : ∀ a ∈ as, bs.B a = none ∧ ∀ j, mu Γ1 j → σ[j]? ≠ some (some (.ref a)) := by
    clear hsl e1 w hl
    induction r1 with
    | nil => intro a ha; cases ha
    | val _ _ ih => exact ih
    | own h0 _ _ _ _ ih =>
      intro c hc
      rcases List.mem_cons.mp hc with rfl | hc
      · exact ⟨s.bnone h0, fun j m ej => s.mune (x1.k j m) ej h0 rfl⟩
      · exact ih c hc
  refine ⟨by rw [hl, ← hsl, List.length_map], ?_⟩
  rw [← hsl]
  exact w _ _ _ (StR.setAll r1 s1 hN) x1.f
theorem s_par {px py pt : Pos} {kt k2 pt2} (hc : X.calm = true) (hN : X.N.Nodup) (hi : X.N[i]? = some x) (hj : X.N[j]? = some y) (hij : i ≠ j)
    (hx : X.env.scope.names.lookup x = some .local) (hy : X.env.scope.names.lookup y = some .local) (ha : PQ X bs [a, b] [i, j] q)
    (hw : swappedStores [.Tuple [.Name x px, .Name y py] kt pt] (.Tuple [a, b] k2 pt2) X.env = pure (some [x, y]))
    (hs : swapsWithSole [.Tuple [.Name x px, .Name y py] kt pt] (.Tuple [a, b] k2 pt2) pos.line X.env = pure false := by rfl) :
    PS X (.Assign [.Tuple [.Name x px, .Name y py] kt pt] (.Tuple [a, b] k2 pt2) pos) (tS X.kw bs fr (sPar q)) := (ps_par hc hN hi hj hij hx hy ha.run hw hs).wk fun D σ H w => by
  obtain ⟨Hf, Γ, ps, Γ', s, e, w⟩ := par_of ha D σ H w
  refine ⟨Hf, Γ, ps, Γ', s, e, fun vs as Hf' H' s' x r => ?_⟩
  obtain ⟨hl, w⟩ := w vs as Hf' H' s' x r
  match vs, hl, w with
  | [v, u], _, w => exact ⟨v, u, rfl, w⟩
theorem s_par3 {px py pz pt : Pos} {kt k2 pt2} (hc : X.calm = true) (hN : X.N.Nodup) (hi : X.N[i]? = some x) (hj : X.N[j]? = some y) (hl : X.N[l]? = some z) (hij : i ≠ j) (hil : i ≠ l) (hjl : j ≠ l)
    (hx : X.env.scope.names.lookup x = some .local) (hy : X.env.scope.names.lookup y = some .local) (hz : X.env.scope.names.lookup z = some .local) (ha : PQ X bs [a, b, c] [i, j, l] q)
    (hw : swappedStores [.Tuple [.Name x px, .Name y py, .Name z pz] kt pt] (.Tuple [a, b, c] k2 pt2) X.env = pure (some [x, y, z]))
    (hs : swapsWithSole [.Tuple [.Name x px, .Name y py, .Name z pz] kt pt] (.Tuple [a, b, c] k2 pt2) pos.line X.env = pure false := by rfl) :
    PS X (.Assign [.Tuple [.Name x px, .Name y py, .Name z pz] kt pt] (.Tuple [a, b, c] k2 pt2) pos) (tS X.kw bs fr (sPar q)) := (ps_par3 hc hN hi hj hl hij hil hjl hx hy hz ha.run hw hs).wk fun D σ H w => by
  obtain ⟨Hf, Γ, ps, Γ', s, e, w⟩ := par_of ha D σ H w
  refine ⟨Hf, Γ, ps, Γ', s, e, fun vs as Hf' H' s' x r => ?_⟩
  obtain ⟨hl, w⟩ := w vs as Hf' H' s' x r
  match vs, hl, w with
  | [v, u, t], _, w => exact ⟨v, u, t, rfl, w⟩
/-! ### range(i, j, -1) -/
def rngD (lo : Int) (n : Nat) : List D := (List.range n).map fun k => .int (lo - (k : Nat))
def iRg3 (f : Oxs) : Exs := fun Γ => (f Γ).bind fun p => (ovs p.2 p.1).bind fun ds => match ds with
  | [.int i, .int j, .int (-1)] => if (-1000000000 ≤ i ∧ i ≤ 1000000000) ∧ (-1000000000 ≤ j ∧ j ≤ 1000000000) then some (rngD i (i - j).toNat, p.2) else none
  | _ => none
theorem rngD_get {lo : Int} {n i : Nat} {d : D} (h : (rngD lo n)[i]? = some d) : i < n ∧ d = .int (lo - i) := by
  unfold rngD at h
  rw [List.getElem?_map] at h
  cases e : (List.range n)[i]? with
  | none => rw [e] at h; cases h
  | some k =>
    rw [e] at h
    obtain ⟨h1, h2⟩ := List.getElem?_eq_some_iff.mp e
    rw [List.getElem_range] at h2
    rw [List.length_range] at h1
    subst h2
    exact ⟨h1, (Option.some.inj h).symm⟩
theorem okRangeD {K : KW} {lo : Int} {n : Nat} {Hf : Hp} : ItOk K bs (Itc lo (-1) n) Hf (rngD lo n) := fun σ Γ Hf' H' s z => by
  refine ⟨fun i d h => ?_, ?_⟩
  · obtain ⟨h1, rfl⟩ := rngD_get h
    refine ⟨h1, fun x H3 y => ?_⟩
    obtain ⟨e, y⟩ := y
    subst e y
    refine ⟨Hf', s, Ext.refl, ?_⟩
    have : lo + (i : Int) * (-1) = lo - i := by omega
    rw [this]
    exact .int _
  · show n ≤ (rngD lo n).length
    unfold rngD
    rw [List.length_map, List.length_range]
    exact Nat.le_refl _
theorem rds3 {K : KW} {Hf H : Hp} {xs : List V} {d e f : D} (h : RdHs K Hf H xs [d, e, f]) : ∃ x y z, xs = [x, y, z] ∧ RdH K Hf H x d ∧ RdH K Hf H y e ∧ RdH K Hf H z f := by
  match xs, h with
  | [x, y, z], h => exact ⟨x, y, z, rfl, h.1, h.2.1, h.2.2.1⟩
theorem i_rg3 {K : KW} {p : Pos} (hg : Gl X "range") (hm : X.mg "range" = none) (ha : PA X [a, b, c] (tOs K bs os)) (hs : starEach [a, b, c] X.env = (false, eval a X.env) :: starEach [b, c] X.env := by rfl) (hpl : (backTo pos (starEach [b, c] X.env)).any (·.1) = false := by rfl) : PI X tg (.Call (.Name "range" p) [a, b, c] [] pos) (tI K bs (iRg3 os)) := (pi_range3 hg hm ha hs hpl).wk fun σ H R ⟨Hf, Γ, ds, Γ', s, e, q⟩ => by
  unfold iRg3 at e
  rw [Option.bind_eq_some_iff] at e
  obtain ⟨⟨o1, Γ1⟩, e1, e⟩ := e
  rw [Option.bind_eq_some_iff] at e
  obtain ⟨l, e2, e⟩ := e
  split at e
  · split at e
    · rename_i hj
      cases e
      refine ⟨Hf, Γ, o1, _, s, e1, fun vs Hf1 H1 s1 x1 r1 => ?_⟩
      obtain ⟨v, w, u, rfl, rv, rw_, ru⟩ := rds3 (ovRds s1 r1 e2)
      exact ⟨_, _, _, _, by rw [rd_int rv, rd_int rw_, rd_int ru], RgC.neg (by omega) (by omega) (by omega) (by omega), q _ _ _ s1 x1 okRangeD⟩
    · cases e
  · cases e
/-! ### t[::-1] -/
def eRev (f : Ox) : Ex := fun Γ => (f Γ).bind fun p => (p.1.get p.2).bind fun d => match d with
  | .tup ds => some (.tup ds.reverse, p.2)
  | _ => none
theorem z_rev {k : Nat} {p1 p3 : Pos} (he : PE X e (tO X.kw bs fo)) : PE X (.Subscript e (.Slice none none (some (.UnaryOp .USub (.Constant (.int 1) k p1) p2)) p3) pos) (tZ X.kw bs (eRev fo)) := (pe_revT he).wk fun σ H Q hq => by
  obtain ⟨Hf, Γ, d, Γ', st, e, q⟩ := hq
  unfold eRev at e
  rw [Option.bind_eq_some_iff] at e
  obtain ⟨⟨o1, Γ1⟩, e1, e⟩ := e
  rw [Option.bind_eq_some_iff] at e
  obtain ⟨dx, e3, e⟩ := e
  split at e
  · cases e
    refine ⟨Hf, Γ, o1, _, st, e1, fun v Hf1 H1 s1 x1 r1 => ?_⟩
    obtain ⟨a, us, rfl, h1, h1', h2⟩ := rd_tup s1.fz (ovRd s1 r1 e3)
    exact ⟨a, us, rfl, h1, fun p np => q _ _ _ (s1.laid np) (x1.trans (s1.laidX np)) (.tup (SqT.of upd_same) (h2.rev.mono (sameNew (s1.fnone np))))⟩
  · cases e
/-! ### l.index(x), ints -/
def idxI (x : Int) : List Int → Option Nat
  | [] => none
  | n :: ns => if n = x then some 0 else (idxI x ns).map (· + 1)
theorem idxI_some {x : Int} : ∀ {ns : List Int} {j : Nat}, idxI x ns = some j → ns[j]? = some x ∧ ∀ m n, m < j → ns[m]? = some n → n ≠ x
  | [], j, e => by cases e
  | n :: ns, j, e => by
    rw [idxI] at e
    split at e
    · rename_i h
      cases e
      exact ⟨by rw [h]; rfl, fun m n hm => absurd hm (Nat.not_lt_zero _)⟩
    · rename_i h
      rw [Option.map_eq_some_iff] at e
      obtain ⟨k, e1, rfl⟩ := e
      obtain ⟨h1, h2⟩ := idxI_some e1
      refine ⟨by simpa using h1, fun m p hm hp => ?_⟩
      cases m with
      | zero => cases hp; exact h
      | succ m => exact h2 m p (by omega) (by simpa using hp)
def eIdx (f g : Ox) : Ex := fun Γ => (f Γ).bind fun p => (lstOf? p.1 p.2).bind fun _ => (g p.2).bind fun q => (p.1.get q.2).bind fun l => (lstOf l).bind fun ds => (intsOf ds).bind fun ns => (q.1.get q.2).bind fun x => (toI x).bind fun x => (idxI x ns).map fun j => (.int (j : Nat), q.2)
where lstOf? (o : Ov) (Γ : Gm) : Option (List D) := (o.get Γ).bind lstOf
theorem dpI {K : PySem.W.Frag} {H : Hp} : ∀ (ns : List Int), DpAll K H (ns.map V.int) (ns.map PyData.int)
  | [] => .nil
  | n :: ns => .cons (.int n) (dpI ns)
theorem clI : ∀ ns : List Int, PyData.canLayAll0 (ns.map PyData.int) = true
  | [] => by rw [List.map_nil, PyData.canLayAll0]
  | n :: ns => by rw [List.map_cons, PyData.canLayAll0, PyData.canLay0, clI ns]; rfl
theorem dtI : ∀ ns : List Int, PyData.depthAll (ns.map PyData.int) = 0
  | [] => by rw [List.map_nil, PyData.depthAll]
  | n :: ns => by rw [List.map_cons, PyData.depthAll, PyData.depth, dtI ns]; rfl
theorem shI (ns : List Int) : SeqAt.shaped (.list (ns.map PyData.int)) = true := by
  show (PyData.canLay0 (.list (ns.map PyData.int)) && decide (PyData.depth (.list (ns.map PyData.int)) ≤ 64)) = true
  rw [Bool.and_eq_true]
  exact ⟨by rw [PyData.canLay0]; exact clI ns, decide_eq_true (by rw [PyData.depth, dtI]; decide)⟩
theorem z_idx (hu : X.A.units + 64 < cLine) (ho : PE X o (tO X.kw bs fo)) (ha : PE X e (tO X.kw bs go)) (hbase : attributeBase o "index" X.env (eval o X.env) = eval o X.env := by rfl)
    (hfew : ((backTo cpos (starEach [e] X.env)).all (fun x => !x.1) && (backToKw cpos (keywordEach [] X.env)).all (fun x => x.1.isSome)
      && decide ([e].length + ([] : List Keyword).length + (if ([] : List Keyword).isEmpty then 0 else 1) < 30)) = true := by rfl)
    (hline : (apos.endLine == cpos.line) = true := by rfl) (hs : starEach [e] X.env = (false, eval e X.env) :: starEach [] X.env := by rfl) (hplain : (backTo cpos (starEach [] X.env)).any (·.1) = false := by rfl) (hu2 : X.A.units + 65 < cLine) :
    PE X (.Call (.Attribute o "index" apos) [e] [] cpos) (tZ X.kw bs (eIdx fo go)) := (pe_bm PySem.F.plainAttrs_list PySem.F.slot_list_index PySem.F.type_list_index (mt_indexD hu2) ho (pa_cons ha pa_nil hs) hbase hfew hline hs hplain).wk fun σ H Q hq => by
  obtain ⟨Hf, Γ, d, Γ', st, e, q⟩ := hq
  unfold eIdx at e
  rw [Option.bind_eq_some_iff] at e
  obtain ⟨⟨o1, Γ1⟩, e1, e⟩ := e
  rw [Option.bind_eq_some_iff] at e
  obtain ⟨l0, e2, e⟩ := e
  rw [Option.bind_eq_some_iff] at e
  obtain ⟨⟨o2, Γ2⟩, e3, e⟩ := e
  rw [Option.bind_eq_some_iff] at e
  obtain ⟨dl, e4, e⟩ := e
  rw [Option.bind_eq_some_iff] at e
  obtain ⟨ds, e5, e⟩ := e
  rw [Option.bind_eq_some_iff] at e
  obtain ⟨ns, e6, e⟩ := e
  rw [Option.bind_eq_some_iff] at e
  obtain ⟨dx, e7, e⟩ := e
  rw [Option.bind_eq_some_iff] at e
  obtain ⟨x, e8, e⟩ := e
  rw [Option.map_eq_some_iff] at e
  obtain ⟨j, e9, e⟩ := e
  cases e
  refine ⟨Hf, Γ, o1, Γ1, st, e1, fun v Hf1 H1 s1 x1 r1 => ?_⟩
  unfold eIdx.lstOf? at e2
  rw [Option.bind_eq_some_iff] at e2
  obtain ⟨d0, e2, e2'⟩ := e2
  have rd0 := ovRd s1 r1 e2
  rw [lstOf_some e2'] at rd0
  obtain ⟨a, xs0, rfl, h1, _⟩ := rd_lst s1.fz rd0
  refine ⟨.inl ⟨rfl, _, SqL.of h1⟩, Hf1, Γ1, o2, Γ2, s1, e3, fun w Hf2 H2 s2 x2 r2 => ?_⟩
  have rd := ovRd s2 (r1.mono x2.f) e4
  rw [lstOf_some e5] at rd
  obtain ⟨a', xs, ea, h2, h3⟩ := rd_lst s2.fz rd
  cases ea
  rw [intsOf_some e6] at h3
  rw [h3.ints] at h2
  have rx := ovRd s2 r2 e7
  rw [toI_some e8] at rx
  obtain ⟨k1, k2⟩ := idxI_some e9
  rw [rd_int rx]
  refine ⟨a, .int x, .int x, ns.map PyData.int, j, .int x, rfl, rfl, .lst (SqL.of h2) (dpI ns), .int x, shI ns, ?_, by rw [List.getElem?_map, k1]; rfl, by simp [PyData.eqv], fun m z' hm hz => ?_, q _ _ _ s2 (x1.trans x2) (.int _)⟩
  · show (PyData.canLay0 (.int x) && decide (PyData.depth (.int x) ≤ 64)) = true
    rw [PyData.canLay0, PyData.depth]
    rfl
  · rw [List.getElem?_map] at hz
    cases en : ns[m]? with
    | none => rw [en] at hz; cases hz
    | some n =>
      rw [en] at hz
      cases hz
      have := k2 m n hm en
      simp [PyData.eqv, this]
end
end Zd

set_option maxHeartbeats 4000000
/-! A def that takes a def; comprehensions of two clauses. -/
namespace Zd
open PySem PySem.Spec PyProof.Rows L2 Pd
def spJ (K : KW) (fr : Md) (j : Addr) (F : List D → Option D) : Sp := fun vs H Q E => ∃ us, vs = us ++ [.ref j] ∧ H j = none ∧ spV K fr F us H Q E
/-- np data, then the def -/
def runJ (np n : Nat) (fr : Md) (f : Sx) (ds : List D) : Option D := if ds.length = np then (f (ds.map Sl.val ++ (.fn :: List.replicate (n - (np + 1)) .no))).bind fun p => retOf fr p.1 else none
section
variable {K : KW} {Hf H : Hp}
theorem st_valJ {b : Bs} {fI : Addr} : ∀ {vs : List V} {ds : List D} (i : Nat) (o : Option V) (g : Sl) (n k : Nat), RepAll K Hf vs ds → (vs.map some ++ (some (V.ref fI) :: List.replicate n none))[i]? = some o → (ds.map Sl.val ++ (Sl.fn :: List.replicate n Sl.no))[i]? = some g → ((ds.length + k, fI) ∈ b.R) → SlOk K b Hf H (i + k) o g
  | [], [], 0, o, g, n, k, _, e1, e2, hr => by
    have e1 : some (some (V.ref fI)) = some o := e1
    have e2 : some Sl.fn = some g := e2
    cases e1
    cases e2
    exact .fn hr
  | [], [], i + 1, o, g, n, k, _, e1, e2, hr => by
    have e2 : (List.replicate n Sl.no)[i]? = some g := e2
    rw [List.getElem?_replicate] at e2
    split at e2
    · cases e2; exact .no
    · cases e2
  | v :: vs, d :: ds, 0, o, g, n, k, .cons h _, e1, e2, hr => by
    have e1 : some (some v) = some o := e1
    have e2 : some (Sl.val d) = some g := e2
    cases e1
    cases e2
    exact .val h
  | v :: vs, d :: ds, i + 1, o, g, n, k, .cons _ t, e1, e2, hr => by
    have := st_valJ (b := b) (fI := fI) i o g n (k + 1) t e1 e2 (by rw [List.length_cons] at hr; rw [show ds.length + (k + 1) = ds.length + 1 + k by omega]; exact hr)
    rw [show i + 1 + k = i + (k + 1) by omega]
    exact this
theorem no_muJ : ∀ {ds : List D} {n i : Nat}, ¬ mu (ds.map Sl.val ++ (Sl.fn :: List.replicate n Sl.no)) i
  | [], n, 0, ⟨d, e⟩ => by rcases e with e | e <;> cases e
  | [], n, i + 1, ⟨d, e⟩ => by
    have e : (List.replicate n Sl.no)[i]? = some (.own d) ∨ (List.replicate n Sl.no)[i]? = some (.byr d) := e
    rw [List.getElem?_replicate] at e
    split at e
    · rcases e with e | e <;> cases e
    · rcases e with e | e <;> cases e
  | _ :: ds, n, 0, ⟨d, e⟩ => by rcases e with e | e <;> cases e
  | _ :: ds, n, i + 1, ⟨d, e⟩ => no_muJ (ds := ds) (n := n) (i := i) ⟨d, e⟩
theorem startJ {N : List Str} {us : List V} {ds : List D} {fI : Addr} (z : Same Hf H) (r : RepAll K Hf us ds) : StR K ⟨H, Hf, [(ds.length, fI)]⟩ Hf H (L2.start N (us ++ [.ref fI])) (ds.map Sl.val ++ (.fn :: List.replicate (N.length - (ds.length + 1)) .no)) := by
  have e : L2.start N (us ++ [.ref fI]) = us.map some ++ (some (V.ref fI) :: List.replicate (N.length - (ds.length + 1)) none) := by
    unfold L2.start
    rw [List.map_append, List.length_append, r.len, List.append_assoc]
    rfl
  rw [e]
  exact ⟨by simp [r.len], fun i o g e1 e2 => st_valJ i o g _ 0 r e1 e2 (List.mem_singleton.mpr rfl), fun i j a m => absurd m no_muJ, z, Same.refl _, fun a o e => .inl e, fun a o e => ⟨o, e⟩, fun a o e _ => e⟩
end
section
variable {P : Program} {w : World} {K : PySem.W.Frag} {mg : Str → Option Value} {base : Heap} {x qual : Str} {params : Arguments} {body : List Stmt} {scope : Scope} {dvs : List V} {kws : List (Str × V)} {f fI : Addr} {fd : FuncData} {N ps : List Str} {k np : Nat} {sp : Sp} {fr : Md} {u : Sx}
theorem okJ (F : FunD K x qual params body scope dvs kws f fd) (S : FnScope N ps scope) (hps : ps.length = np + 1)
    (hb : ∀ (cdv : Value) (A : Around) (outer : List Env) (s : Shared) (H : Hp) (E : XK) (bs : Bs), bs.R = [(np, fI)] → A.guards = some [] → Room k (A.deeper (envOfC qual scope s.heap.objs.size f cdv)) →
      PSs (cxOf CX0 P w K mg base N qual scope f cdv A outer s H E).nox body (tS ⟨K, w⟩ bs fr u)) : FnG P w K mg base (k + 1) f fd ps (spJ ⟨K, w⟩ fr fI (runJ np N.length fr u)) := by
  have rs : ∀ {ds : List D} {r : D}, runJ np N.length fr u ds = some r → ds.length = np ∧ ∃ p, u (ds.map Sl.val ++ (.fn :: List.replicate (N.length - (np + 1)) .no)) = some p ∧ retOf fr p.1 = some r := fun {ds r} e => by
    unfold runJ at e
    split at e
    · rename_i h
      rw [Option.bind_eq_some_iff] at e
      exact ⟨h, e⟩
    · cases e
  refine okGD F S (fun vs H Q E ⟨us, ev, _, Hf, ds, r, z, rr, e, _⟩ => by rw [ev, List.length_append, rr.len, (rs e).1, hps]; rfl) fun cdv A outer s H vs Q E hgd hr hsp => ?_
  obtain ⟨us, rfl, hj, Hf, ds, r, z, rr, e, q⟩ := hsp
  obtain ⟨hl, ⟨fl, Γ'⟩, e1, e2⟩ := rs e
  have st := startJ (N := N) (fI := fI) z rr
  rw [hl] at st
  refine ⟨_, hb cdv A outer s H E ⟨H, Hf, [(np, fI)]⟩ rfl hgd hr, Hf, _, fl, Γ', st, e1, ?_⟩
  have same : ∀ {Hf' H' : Hp} {σ' : L2.St} {Γ2 : Gm}, StR ⟨K, w⟩ ⟨H, Hf, [(np, fI)]⟩ Hf' H' σ' Γ2 → Same H H' := fun {Hf' H' σ' Γ2} s' a o ea => s'.fr a o ea fun i hi => by
    have := (Prod.mk.inj (List.mem_singleton.mp hi)).2
    rw [this, hj] at ea
    cases ea
  have e2 : retOf fr fl = some r := e2
  cases fl with
  | nx =>
    have e2 : (if fr = .fresh then none else some D.non) = some r := e2
    cases fr with
    | fresh => cases e2
    | rest =>
      cases e2
      exact fun σ' Hf' H' s' zz => q _ Hf' H' (same s') zz s'.fz s'.fresh .non
    | may =>
      cases e2
      exact fun σ' Hf' H' s' zz => q _ Hf' H' (same s') zz s'.fz s'.fresh (.inl ⟨rfl, rfl⟩)
  | br => cases e2
  | ct => cases e2
  | rt d =>
    cases e2
    refine fun v σ' Hf' H' s' zz rr => q v Hf' H' (same s') zz s'.fz s'.fresh ?_
    cases fr with
    | fresh => obtain ⟨a, e, n, c, hb⟩ := rr; exact ⟨a, e, hb, n, c⟩
    | rest => exact rr
    | may =>
      rcases rr with h | ⟨a, e, n, c, hb⟩
      · exact .inl h
      · exact .inr ⟨a, e, hb, n, c⟩
/-- a def by its address -/
structure HeldZ (P : Program) (w : World) (K : PySem.W.Frag) (mg : Str → Option Value) (base : Heap) (k : Nat) (f : Addr) (n : Nat) (sp : Sp) : Prop where
  kp : PySem.W.keepIn K (.ref f) = true
  run : ∀ (A : Around) (outer : List Env) (s : Shared) (H : Hp) (us : List Value) (vs : List V) (Q : VK), A.guards = some [] → Room k A → Env0 P w K mg base A outer s H → Vals vs us → vs.length = n → sp vs H Q E0 →
    codeAny (model P w) A (.call (.ref f) ⟨us, []⟩) (CR CX0 outer P w H s Q E0) s
theorem CallOk.held {n : Nat} (c : CallOk P w K mg base k x n [] sp) (hm : mg x = some (.ref f)) : HeldZ P w K mg base k f n sp := by
  obtain ⟨g, hg, kp, run⟩ := c.ex
  rw [hm] at hg
  cases hg
  exact ⟨kp, fun A outer s H us vs Q g r e v l q => run A outer s H us [] vs [] Q g r e v .nil l rfl (by rw [List.append_nil]; exact q)⟩
theorem callOkJ {j : Addr} {oj : Obj} {F : List D → Option D} {n : Nat} (G : FnG P w K mg base k f fd ps (spJ ⟨K, w⟩ fr j F)) (hm : mg x = some (.ref f)) (kp : PySem.W.keepIn K (.ref f) = true) (hb : Binds K fd ps []) (lj : K.lookup j = some oj) :
    CallOk P w K mg base k x n [] (fun vs H Q E => ∃ us, vs = us ++ [.ref j] ∧ spV ⟨K, w⟩ fr F us H Q E) := by
  refine ⟨f, hm, kp, fun A outer s H us ws vs zs Q hg hr e0 r1 r2 l1 l2 q => ?_⟩
  have : zs = [] := List.eq_nil_of_length_eq_zero l2
  subst this
  cases r2
  rw [List.append_nil] at q
  have KX : K.In s.heap := e0.mod.kin.keeps fun b o e => (e0.bs b o e).1
  have hj : H j = none := (e0.bs j oj (e0.mod.kin j oj lj)).2
  obtain ⟨us', rfl, q⟩ := q
  have q2 : spJ ⟨K, w⟩ fr j F (us' ++ [.ref j]) H Q E0 := ⟨us', rfl, hj, q⟩
  have hl := G.len _ _ _ _ q2
  have hbb := hb s us KX (by rw [List.append_nil, ← r1.length]; exact hl)
  rw [List.append_nil] at hbb
  exact G.run A outer s H ⟨us, []⟩ us _ Q E0 hg hr e0 hbb r1 q2
end
def eCallL (i : Nat) (F : List D → Option D) (fs : Exs) : Ex := fun Γ => match Γ[i]? with
  | some .fn => eCall F fs Γ
  | _ => none
section
variable {X : Cx} {bs : Bs} {k j n i : Nat} {x : Str} {p pos : Pos} {e e2 : Expr} {es : List Expr} {fs : Exs} {f : Ex} {F : List D → Option D} {sp : Sp} {t : TA} {g : Addr}
theorem z_callL (c : HeldZ X.prog X.w X.K X.mg X.base k g n (spV X.kw .rest F)) (hR : ∀ a, (i, a) ∈ bs.R → a = g) (hgd : X.A.guards = some []) (hr : Room j X.A) (hk : k ≤ j) (hN : X.N[i]? = some x) (hv : Vis X.env.scope x) (ha : PA X (e :: es) (tVs X.kw bs fs)) (hn : ∀ Γ ds Γ', fs Γ = some (ds, Γ') → ds.length = n)
    (hdb : (x == ("__debug__" : Str)) = false := by decide) (hcd : (x == ("__classdict__" : Str)) = false := by decide) (he : starEach (e :: es) X.env = (false, eval e X.env) :: starEach es X.env := by rfl) (hpl : (backTo pos (starEach es X.env)).any (·.1) = false := by rfl) :
    PE X (.Call (.Name x p) (e :: es) [] pos) (tZ X.kw bs (eCallL i F fs)) := by
  refine ⟨fun pins s σ H Q I h => ?_⟩
  obtain ⟨Hf, Γ, d, Γ', st, e, q⟩ := h
  unfold eCallL at e
  split at e
  · rename_i eg
    obtain ⟨o, h1, h2⟩ := st.slot eg
    cases h2 with
    | fn hr' =>
      have := hR _ hr'
      subst this
      refine wpAny_Call_Name_kw (thn ((pe_var (pos := p) hN hv hdb hcd).run pins s σ H (fun v H1 => v = .ref _ ∧ H1 = H) I ⟨.ref _, h1, rfl, rfl⟩) fun u s1 ⟨v, H1, I1, r1, q1⟩ => ?_)
      obtain ⟨rfl, rfl⟩ := q1
      cases r1
      have tc : tCallC n 0 (spV X.kw .rest F) (tVs X.kw bs fs) tNil σ H1 Q := tC_nil (K := X.kw) (bs := bs) σ H1 Q (fun σ H Q Q' w h => tVs_mono σ H Q Q' w h) (callV_of hn eqlen_N σ H1 Q ⟨Hf, Γ, d, Γ', st, by rw [← eCall_K] at e; exact e, q⟩)
      refine PySem.W.callWith_K (h₀ := X.base) I.ok.mod.kin c.kp (thn (ha.run pos pins s1 σ _ _ I1 tc) fun us s2 ⟨vs, H2, I2, r, l1, l2, q2⟩ => ⟨I2.kIn, ?_⟩) he hpl
      rw [List.append_nil] at q2
      exact call_end (ks := []) (ws := []) (vs := vs) (zs := []) I2 (c.run X.A X.stack s2 H2 us vs Q hgd (hr.mono hk) I2.env0 r l1 q2)
  · cases e
/-- x(e, g), g a def -/
theorem z_callJ (c : CallOk X.prog X.w X.K X.mg X.base k x 2 [] (fun vs H Q E => ∃ us, vs = us ++ [.ref g] ∧ spV X.kw .rest F us H Q E)) (hgd : X.A.guards = some []) (hr : Room j X.A) (hk : k ≤ j) (hg : Gl X x) (ha : PE X e (tZ X.kw bs f)) (h2 : PE X e2 (tC (.ref g)))
    (hdb : (x == ("__debug__" : Str)) = false := by decide) (he : starEach [e, e2] X.env = (false, eval e X.env) :: starEach [e2] X.env := by rfl) (he2 : starEach [e2] X.env = (false, eval e2 X.env) :: starEach [] X.env := by rfl) (hpl : (backTo pos (starEach [e2] X.env)).any (·.1) = false := by rfl) :
    PE X (.Call (.Name x p) [e, e2] [] pos) (tZ X.kw bs (eCall F (vsC f vsN))) := (pe_c1 c hgd hr hk hg (pa_cons ha (pa_cons h2 pa_nil he2) he) hdb he hpl).wk fun σ H Q hq => by
  obtain ⟨Hf, Γ, d, Γ', st, e, q⟩ := hq
  unfold eCall vsC at e
  rw [Option.bind_eq_some_iff] at e
  obtain ⟨⟨ds, Γ1⟩, e1, e⟩ := e
  rw [Option.bind_eq_some_iff] at e1
  obtain ⟨⟨d1, Γ2⟩, e1, e3⟩ := e1
  rw [Option.map_eq_some_iff] at e3
  obtain ⟨⟨l, Γ3⟩, e3, e4⟩ := e3
  have e3 : some (([] : List D), Γ2) = some (l, Γ3) := e3
  cases e3
  cases e4
  rw [Option.map_eq_some_iff] at e
  obtain ⟨r, e5, e⟩ := e
  cases e
  refine ⟨Hf, Γ, d1, _, st, e1, fun v Hf1 H1 s1 x1 r1 => ⟨rfl, rfl, [v], rfl, Hf1, [d1], d, s1.fz, .cons r1 .nil, e5, fun v Hf3 H3 h1 h2 h3 h4 rr => ?_⟩⟩
  obtain ⟨s3, x3⟩ := after_call s1 h1 h2 h3 h4
  exact q v Hf3 H3 s3 (x1.trans x3) rr
end
end Zd

set_option maxHeartbeats 4000000
set_option pp.maxSteps 30
/-! Comprehensions of two clauses. -/
namespace Zd
open PySem PySem.Spec PyProof.Rows L2 Pd
def lcL2 (g : Tg) (t : Tx) (it1 : Exs) (g1 : Tg) (t1 : Tx) (f : Ex) (is is1 : List Nat) : List D → Gm → Option (List D × Gm)
  | [], Γ => some ([], Γ)
  | d :: ds, Γ => (g d Γ).bind fun Γ1 => (t Γ1).bind fun c => if c.1 = true then (it1 c.2).bind fun p => (lcL g1 t1 f is1 p.1 (wip is1 p.2)).bind fun r => (lcL2 g t it1 g1 t1 f is is1 ds (wip is r.2)).map fun r' => (r.1 ++ r'.1, r'.2) else lcL2 g t it1 g1 t1 f is is1 ds (wip is c.2)
def eLc2 (it : Exs) (g : Tg) (t : Tx) (it1 : Exs) (g1 : Tg) (t1 : Tx) (f : Ex) (is is1 : List Nat) : Ex := fun Γ => (it Γ).bind fun p => (lcL2 g t it1 g1 t1 f is is1 p.1 (wip is p.2)).bind fun r => if r.1.length ≤ 10000000 then some (.lst r.1, rst is p.2 r.2) else none
section
variable {X : Cx} {K : KW} {bs : Bs} {fr : Md} {elt tg iter tg1 iter1 : Expr} {ifs ifs1 : List Expr} {scope : Scope} {own : List (Str × Nat)} {pos : Pos} {f : Ex} {fs fs1 : Exs} {t t1 : Tx} {is is1 : List Nat} {gt gt1 : Tg}
theorem pend_step {σ σ' : L2.St} {Γ0 Γ2 Γ3 Γ4 : Gm} {Hf1 H1 Hf2 H2 Hf3 H3 : Hp} {Dd : Addr} {xs : List V} (x2 : Ext σ Γ0 Γ2 Hf1 H1 Hf2 H2) (x : Ext σ' Γ3 Γ4 Hf2 H2 Hf3 H3) (m : ∀ j, mu Γ3 j → mu Γ2 j ∧ σ'[j]? = σ[j]?) (n2 : Hf2 Dd = none) (hD : H2 Dd = some (.lst xs)) (nm : ∀ j, mu Γ0 j → σ[j]? ≠ some (some (.ref Dd))) {Γ5 : Gm} (k : ∀ j, mu Γ5 j → mu Γ4 j) :
    Ext σ Γ0 Γ5 Hf1 H1 Hf3 H3 ∧ Hf3 Dd = none ∧ H3 Dd = some (.lst xs) := by
  have hn : ∀ j, mu Γ3 j → σ'[j]? ≠ some (some (.ref Dd)) := fun j mj => by rw [(m j mj).2]; exact nm j (x2.k j (m j mj).1)
  have h3 := x.h _ _ hD hn
  refine ⟨x2.trans (x.re (Γ' := Γ5) m fun j mj => (m j (x.k j (k j mj))).1), ?_, h3⟩
  cases w : Hf3 Dd with
  | none => rfl
  | some u =>
    rcases x.n _ _ w with z | z
    · rw [n2] at z; cases z
    · rw [hD] at z; cases z
theorem lc2_of {isO : List Nat} (hv : ∀ i ∈ is1, i ∈ is) (ho : ∀ i ∈ isO, i ∈ is) (σ : L2.St) (H : Hp) (Q : VK) (hq : tF K bs (eLc2 fs gt t fs1 gt1 t1 f is is1) σ H Q) :
    tLc2 (tI K bs fs) (tG K bs isO gt) (tX K bs t) (tI K bs fs1) (tG K bs is1 gt1) (tX K bs t1) (tZ K bs f) is is1 σ H Q := by
  obtain ⟨Hf, Γ, d, Γ', s, e, q⟩ := hq
  unfold eLc2 at e
  rw [Option.bind_eq_some_iff] at e
  obtain ⟨⟨ds, Γ1⟩, e1, e⟩ := e
  rw [Option.bind_eq_some_iff] at e
  obtain ⟨⟨tot, Γe⟩, e2, e⟩ := e
  have e : (if tot.length ≤ 10000000 then some (D.lst tot, rst is Γ1 Γe) else none) = some (d, Γ') := e
  split at e
  · rename_i hlen
    cases e
    refine ⟨Hf, Γ, ds, Γ1, s, e1, fun J Hf1 H1 s1 x1 ok Dd hD => ?_⟩
    have hB : bs.B Dd = none := s1.bnone hD
    have nm : ∀ j, mu (wip is Γ1) j → (wipe σ is)[j]? ≠ some (some (.ref Dd)) := fun j m ej => (s1.wip is).mune m ej hD rfl
    refine ⟨fun k m H2 => ∃ Hf2 Γ2 acc xs rest, k ≤ ds.length ∧ m = ds.length - k ∧ StR K bs Hf2 H2 (wipe σ is) Γ2 ∧ Ext (wipe σ is) (wip is Γ1) Γ2 Hf1 H1 Hf2 H2 ∧ Hf2 Dd = none ∧ H2 Dd = some (.lst xs) ∧ RepAll K Hf2 xs acc ∧ lcL2 gt t fs1 gt1 t1 f is is1 (ds.drop k) Γ2 = some (rest, Γe) ∧ acc ++ rest = tot, ⟨ds.length, Hf1, wip is Γ1, [], [], tot, Nat.zero_le _, rfl, (s1.wip is).made hD, (s1.wip is).madeX hD, s1.fnone hD, upd_same, .nil, e2, rfl⟩, ?_⟩
    rintro k m H2 ⟨Hf2, Γ2, acc, xs, rest, hk, rfl, s2, x2, n2, hD2, ra, e4, ht⟩
    by_cases hlt : k < ds.length
    · right
      have hd : ds[k]? = some ds[k] := List.getElem?_eq_getElem hlt
      obtain ⟨go, yl⟩ := (ok (wipe σ is) Γ2 Hf2 H2 s2 x2.f).1 k _ hd
      rw [drop_cons hd, lcL2, Option.bind_eq_some_iff] at e4
      obtain ⟨Γ3, e5, e4⟩ := e4
      rw [Option.bind_eq_some_iff] at e4
      obtain ⟨⟨c, Γ4⟩, e6, e4⟩ := e4
      refine ⟨go, fun H5 => ∃ Hf5 Γ5 acc' xs' rest', StR K bs Hf5 H5 (wipe σ is) Γ5 ∧ Ext (wipe σ is) (wip is Γ1) Γ5 Hf1 H1 Hf5 H5 ∧ Hf5 Dd = none ∧ H5 Dd = some (.lst xs') ∧ RepAll K Hf5 xs' acc' ∧ lcL2 gt t fs1 gt1 t1 f is is1 (ds.drop (k + 1)) Γ5 = some (rest', Γe) ∧ acc' ++ rest' = tot, fun H5 ⟨Hf5, Γ5, acc', xs', rest', a2, a3, a4, a5, a6, a7, a8⟩ => ⟨ds.length - (k + 1), by omega, Hf5, Γ5, acc', xs', rest', hlt, rfl, a2, a3, a4, a5, a6, a7, a8⟩, fun v H3 hy => ?_⟩
      obtain ⟨Hf3, s3, x3, r3⟩ := yl v H3 hy
      obtain ⟨x3', n3, hD3⟩ := pend_step (Γ5 := Γ2) x2 x3 (fun j m => ⟨m, rfl⟩) n2 hD2 nm fun j m => m
      have wσ : ∀ {σ6 : L2.St}, σ6.length = (wipe σ is).length → (∀ j, j ∉ is → σ6[j]? = (wipe σ is)[j]?) → wipe σ6 is = wipe σ is := fun l6 k6 => by
        rw [wipe_eq l6 k6]
        exact wipe_eq (by rw [wipe_length]) fun j hj => wipe_at hj
      refine ⟨Hf3, Γ2, _, Γ3, s3, r3, e5, fun σ6 s6 l6 k6' m6 => ⟨wσ l6 (fun j hj => k6' j fun z => hj (ho j z)), Hf3, Γ3, c, Γ4, s6, e6, fun Hf7 H7 s7 x7 => ?_⟩⟩
      have k6 : ∀ j, j ∉ is → σ6[j]? = (wipe σ is)[j]? := fun j hj => k6' j fun z => hj (ho j z)
      have mσ : ∀ j, mu Γ3 j → mu Γ2 j ∧ σ6[j]? = (wipe σ is)[j]? := fun j m => ⟨(m6 j m).2, k6' j (m6 j m).1⟩
      obtain ⟨x7', n7, hD7⟩ := pend_step (Γ5 := Γ4) x3' x7 mσ n3 hD3 nm fun j m => m
      have ra7 := ra.mono (x3.f.trans x7.f)
      cases c with
      | false =>
        have e4 : lcL2 gt t fs1 gt1 t1 f is is1 (ds.drop (k + 1)) (wip is Γ4) = some (rest, Γe) := e4
        refine iteF ⟨Hf7, wip is Γ4, acc, xs, rest, ?_, ⟨x7'.f, x7'.h, x7'.n, x7'.dm, fun j m => x7'.k j (wip_mu m).2⟩, n7, hD7, ra7, e4, ht⟩
        have := s7.wip is
        rw [wσ l6 k6] at this
        exact this
      | true =>
        have e4 : (fs1 Γ4).bind (fun p => (lcL gt1 t1 f is1 p.1 (wip is1 p.2)).bind fun r => (lcL2 gt t fs1 gt1 t1 f is is1 (ds.drop (k + 1)) (wip is r.2)).map fun r' => (r.1 ++ r'.1, r'.2)) = some (rest, Γe) := e4
        rw [Option.bind_eq_some_iff] at e4
        obtain ⟨⟨ds1, Γ8⟩, e8, e4⟩ := e4
        rw [Option.bind_eq_some_iff] at e4
        obtain ⟨⟨in1, Γ9⟩, e9, e4⟩ := e4
        rw [Option.map_eq_some_iff] at e4
        obtain ⟨⟨rest2, Γe'⟩, e10, e11⟩ := e4
        cases e11
        refine iteT ⟨Hf7, Γ4, ds1, Γ8, s7, e8, fun J1 Hf8 H8 s8 x8 ok1 => ?_⟩
        have mσ4 : ∀ j, mu Γ4 j → mu Γ4 j ∧ σ6[j]? = (wipe σ is)[j]? := fun j m => ⟨m, (mσ j (x7.k j m)).2⟩
        obtain ⟨x8', n8, hD8⟩ := pend_step (Γ5 := Γ8) x7' x8 mσ4 n7 hD7 nm fun j m => m
        have ra8 := ra7.mono x8.f
        -- the slots that own: the same in the inner walk
        have at8 : ∀ j, mu (wip is Γ1) j → σ6[j]? = (wipe σ is)[j]? ∧ (wipe σ6 is1)[j]? = (wipe σ is)[j]? := fun j m => by
          have hj := (wip_mu m).1
          exact ⟨k6 j hj, by rw [wipe_at fun z => hj (hv j z)]; exact k6 j hj⟩
        refine ⟨fun a n Ha => ∃ Hfa Γa acca xsa resta, a ≤ ds1.length ∧ n = ds1.length - a ∧ StR K bs Hfa Ha (wipe σ6 is1) Γa ∧ Ext (wipe σ is) (wip is Γ1) Γa Hf1 H1 Hfa Ha ∧ Same Hf8 Hfa ∧ Hfa Dd = none ∧ Ha Dd = some (.lst xsa) ∧ RepAll K Hfa xsa acca ∧ lcL gt1 t1 f is1 (ds1.drop a) Γa = some (resta, Γ9) ∧ acca ++ (resta ++ rest2) = tot, ⟨ds1.length, Hf8, wip is1 Γ8, acc, xs, in1, Nat.zero_le _, rfl, s8.wip is1, ⟨x8'.f, x8'.h, x8'.n, x8'.dm, fun j m => x8'.k j (wip_mu m).2⟩, Same.refl _, n8, hD8, ra8, e9, ht⟩, ?_⟩
        rintro a n Ha ⟨Hfa, Γa, acca, xsa, resta, ha, rfl, sa, xa, za, na, hDa, raa, ea, hta⟩
        by_cases hla : a < ds1.length
        · right
          have hd1 : ds1[a]? = some ds1[a] := List.getElem?_eq_getElem hla
          obtain ⟨go1, yl1⟩ := (ok1 (wipe σ6 is1) Γa Hfa Ha sa za).1 a _ hd1
          rw [drop_cons hd1, lcL, Option.bind_eq_some_iff] at ea
          obtain ⟨Γb, eb, ea⟩ := ea
          rw [Option.bind_eq_some_iff] at ea
          obtain ⟨⟨c1, Γc⟩, ec, ea⟩ := ea
          refine ⟨go1, fun H5 => ∃ Hf5 Γ5 acc5 xs5 rest5, StR K bs Hf5 H5 (wipe σ6 is1) Γ5 ∧ Ext (wipe σ is) (wip is Γ1) Γ5 Hf1 H1 Hf5 H5 ∧ Same Hf8 Hf5 ∧ Hf5 Dd = none ∧ H5 Dd = some (.lst xs5) ∧ RepAll K Hf5 xs5 acc5 ∧ lcL gt1 t1 f is1 (ds1.drop (a + 1)) Γ5 = some (rest5, Γ9) ∧ acc5 ++ (rest5 ++ rest2) = tot, fun H5 ⟨Hf5, Γ5, acc5, xs5, rest5, b1, b2, b3, b4, b5, b6, b7, b8⟩ => ⟨ds1.length - (a + 1), by omega, Hf5, Γ5, acc5, xs5, rest5, hla, rfl, b1, b2, b3, b4, b5, b6, b7, b8⟩, fun v1 Hv hy1 => ?_⟩
          obtain ⟨Hfv, sv, xv, rv⟩ := yl1 v1 Hv hy1
          have mua : ∀ j, mu Γa j → mu Γa j ∧ (wipe σ6 is1)[j]? = (wipe σ is)[j]? := fun j m => ⟨m, (at8 j (xa.k j m)).2⟩
          obtain ⟨xv', nv, hDv⟩ := pend_step (Γ5 := Γa) xa xv mua na hDa nm fun j m => m
          have wσ1 : ∀ {σb : L2.St}, σb.length = (wipe σ6 is1).length → (∀ j, j ∉ is1 → σb[j]? = (wipe σ6 is1)[j]?) → wipe σb is1 = wipe σ6 is1 := fun lb kb => by
            rw [wipe_eq lb kb]
            exact wipe_eq (by rw [wipe_length]) fun j hj => wipe_at hj
          refine ⟨Hfv, Γa, _, Γb, sv, rv, eb, fun σb sb lb kb mb => ⟨wσ1 lb kb, Hfv, Γb, c1, Γc, sb, ec, fun Hfc Hc sc xc => ?_⟩⟩
          have mub : ∀ j, mu Γb j → mu Γa j ∧ σb[j]? = (wipe σ is)[j]? := fun j m => ⟨(mb j m).2, by rw [kb j (mb j m).1]; exact (mua j (mb j m).2).2⟩
          obtain ⟨xc', nc, hDc⟩ := pend_step (Γ5 := Γc) xv' xc mub nv hDv nm fun j m => m
          have rac := raa.mono (xv.f.trans xc.f)
          have zc := (za.trans xv.f).trans xc.f
          cases c1 with
          | false =>
            refine iteF ⟨Hfc, wip is1 Γc, acca, xsa, resta, ?_, ⟨xc'.f, xc'.h, xc'.n, xc'.dm, fun j m => xc'.k j (wip_mu m).2⟩, zc, nc, hDc, rac, ea, hta⟩
            have := sc.wip is1
            rw [wσ1 lb kb] at this
            exact this
          | true =>
            have ea : (f Γc).bind (fun p => (lcL gt1 t1 f is1 (ds1.drop (a + 1)) (wip is1 p.2)).map fun r => (p.1 :: r.1, r.2)) = some (resta, Γ9) := ea
            rw [Option.bind_eq_some_iff] at ea
            obtain ⟨⟨y, Γd⟩, ed, ea⟩ := ea
            rw [Option.map_eq_some_iff] at ea
            obtain ⟨⟨rest5, Γ9'⟩, ee, ef⟩ := ea
            cases ef
            refine iteT ⟨Hfc, Γc, y, Γd, sc, ed, fun w Hfd Hd' sd xd rd => ?_⟩
            have muc : ∀ j, mu Γc j → mu Γc j ∧ σb[j]? = (wipe σ is)[j]? := fun j m => ⟨m, (mub j (xc.k j m)).2⟩
            obtain ⟨xd', nd, hDd⟩ := pend_step (Γ5 := Γd) xc' xd muc nc hDc nm fun j m => m
            have hacc : acca.length < 10000000 := by
              have := congrArg List.length hta
              simp only [List.length_append, List.length_cons] at this
              omega
            refine ⟨xsa, hDd, szL' (by rw [raa.len]; exact hacc), Hfd, wip is1 Γd, acca ++ [y], xsa ++ [w], rest5, ?_, ⟨(xd'.pend (o := .lst (xsa ++ [w])) hD).f, (xd'.pend (o := .lst (xsa ++ [w])) hD).h, (xd'.pend (o := .lst (xsa ++ [w])) hD).n, (xd'.pend (o := .lst (xsa ++ [w])) hD).dm, fun j m => xd'.k j (wip_mu m).2⟩, zc.trans xd.f, nd, upd_same, (rac.mono xd.f).append (.cons rd .nil), ee, by rw [List.append_assoc]; exact hta⟩
            have s10 := sd.pend (o := .lst (xsa ++ [w])) ⟨_, hDd⟩ nd hB fun j m => by rw [(muc j (xd.k j m)).2]; exact nm j (xd'.k j m)
            have := s10.wip is1
            rw [wσ1 lb kb] at this
            exact this
        · left
          have hi' : a = ds1.length := by omega
          subst hi'
          rw [List.drop_length, lcL] at ea
          obtain ⟨hr0, hΓ⟩ : resta = [] ∧ Γ9 = Γa := by cases ea; exact ⟨rfl, rfl⟩
          subst hΓ
          rw [hr0, List.nil_append] at hta
          refine ⟨(ok1 (wipe σ6 is1) Γ9 Hfa Ha sa za).2, Hfa, wip is Γ9, acca, xsa, rest2, ?_, ⟨xa.f, xa.h, xa.n, xa.dm, fun j m => xa.k j (wip_mu m).2⟩, na, hDa, raa, e10, hta⟩
          have := sa.wip is
          have ew : wipe (wipe σ6 is1) is = wipe σ is := by
            rw [show wipe (wipe σ6 is1) is = wipe σ6 is from wipe_eq (by rw [wipe_length]) fun j hj => wipe_at fun z => hj (hv j z)]
            exact wσ l6 k6
          rw [ew] at this
          exact this
    · left
      have hi' : k = ds.length := by omega
      subst hi'
      rw [List.drop_length, lcL2] at e4
      cases e4
      rw [List.append_nil] at ht
      subst ht
      obtain ⟨s11, x11⟩ := s1.unwipe x2 s2
      exact ⟨(ok (wipe σ is) _ Hf2 H2 s2 x2.f).2, q Dd Hf2 H2 s11 (x1.trans x11) (none_back x1 hD) n2 ⟨xs, hD2, ra⟩⟩
  · cases e
theorem f_lc2 (hc : X.calm = true) (hN : X.N.Nodup) (hi : PI X tg iter (tI X.kw bs fs)) (ok : BlkOk X.N X.env.scope scope own) (hv : ∀ i ∈ is1, i ∈ own.map (·.2))
    (hg : ∀ (s : Shared) (H : Hp) (C : Addr) (cl : List (Str × Addr)) (fp : List Addr), PG (X.blk s H scope (compEnvC scope cl C X.env) fp) tg (tG X.kw bs is gt)) (his : ∀ i ∈ is, i ∈ own.map (·.2))
    (ht : ∀ (s : Shared) (H : Hp) (C : Addr) (cl : List (Str × Addr)) (fp : List Addr), PTs (X.blk s H scope (compEnvC scope cl C X.env) fp) ifs (tX X.kw bs t))
    (hi1 : ∀ (s : Shared) (H : Hp) (C : Addr) (cl : List (Str × Addr)) (fp : List Addr), PI (X.blk s H scope (compEnvC scope cl C X.env) fp) tg1 iter1 (tI X.kw bs fs1))
    (hg1 : ∀ (s : Shared) (H : Hp) (C : Addr) (cl : List (Str × Addr)) (fp : List Addr), PG (X.blk s H scope (compEnvC scope cl C X.env) fp) tg1 (tG X.kw bs is1 gt1)) (ht1 : ∀ (s : Shared) (H : Hp) (C : Addr) (cl : List (Str × Addr)) (fp : List Addr), PTs (X.blk s H scope (compEnvC scope cl C X.env) fp) ifs1 (tX X.kw bs t1))
    (he : ∀ (s : Shared) (H : Hp) (C : Addr) (cl : List (Str × Addr)) (fp : List Addr), PE (X.blk s H scope (compEnvC scope cl C X.env) fp) elt (tZ X.kw bs f)) (hs : ∀ x, foldedSetIterable iter X.env x = pure x := by intro _; rfl) (hs1 : ∀ env x, foldedSetIterable iter1 env x = pure x := by intro _ _; rfl) :
    PE X (.ListComp elt [⟨tg, iter, ifs, 0⟩, ⟨tg1, iter1, ifs1, 0⟩] scope pos) (tF X.kw bs (eLc2 fs gt t fs1 gt1 t1 f (own.map (·.2)) is1)) :=
  (pe_lc2 hc hN hi ok hv hg ht hi1 hg1 ht1 he hs hs1).wk fun σ H Q q => lc2_of hv his σ H Q q
end
end Zd

set_option maxHeartbeats 4000000
/-! A new object passed to a def that changes it. -/
namespace Zd
open PySem PySem.Spec PyProof.Rows L2 Pd
def eCallT (F : D → List D → Option (D × D)) (f : Ex) : Ex := fun Γ => (f Γ).bind fun p => (F p.1 []).map fun r => (r.1, p.2)
section
variable {X : Cx} {bs : Bs} {k j i : Nat} {x : Str} {p pos : Pos} {e : Expr} {f : Ex} {G : D → List D → Option (D × D)}
theorem callT_of {K : KW} (σ : L2.St) (H : Hp) (Q : VK) (hq : tZ K bs (eCallT G f) σ H Q) : tCallC 1 0 (spB K .rest G) (tCons (tF K bs f) tNil) tNil σ H Q := by
  obtain ⟨Hf, Γ, d, Γ', st, e, q⟩ := hq
  unfold eCallT at e
  rw [Option.bind_eq_some_iff] at e
  obtain ⟨⟨d1, Γ1⟩, e1, e⟩ := e
  rw [Option.map_eq_some_iff] at e
  obtain ⟨⟨r, c'⟩, e3, e⟩ := e
  cases e
  refine ⟨Hf, Γ, d1, _, st, e1, fun a Hf1 H1 s1 x1 n1 n2 ch => ⟨rfl, rfl, a, [], Hf1, d1, [], r, c', rfl, s1.fz, n2, ch, .nil, e3, fun v Hf2 H2 k1 k2 k3 k4 k5 k6 rr => ?_⟩⟩
  have nm : ∀ j, mu Γ1 j → σ[j]? ≠ some (some (.ref a)) := fun j m ej => by
    obtain ⟨h, d0, h1, h2, h3, h4, o, h5⟩ := st.muAt (x1.k j m)
    rw [h1] at ej
    cases ej
    rw [n1] at h5
    cases h5
  obtain ⟨o1, ho1⟩ := ch.is
  obtain ⟨o2, ho2⟩ := k6.is
  have s1' := s1.pend (o := o2) ⟨o1, ho1⟩ n2 (st.bnone n1) nm
  have sm : Same (upd H1 a o2) H2 := fun y o ey => by
    by_cases hy : y = a
    · subst hy
      rw [upd_same] at ey
      cases ey
      exact ho2
    · rw [upd_ne hy] at ey
      exact k1 y o hy ey
  obtain ⟨s2, x2⟩ := after_call s1' sm k2 k3 fun y o ey => by
    rcases k4 y o ey with z | z
    · exact .inl z
    · refine .inr ?_
      rw [upd_ne fun w => by rw [w, ho1] at z; cases z]
      exact z
  exact q v Hf2 H2 s2 ((x1.pend n1).trans x2) rr
theorem z_callT (c : CallOk X.prog X.w X.K X.mg X.base k x 1 [] (spB X.kw .rest G)) (hgd : X.A.guards = some []) (hr : Room j X.A) (hk : k ≤ j) (hg : Gl X x) (h0 : PE X e (tF X.kw bs f))
    (hdb : (x == ("__debug__" : Str)) = false := by decide) (he : starEach [e] X.env = (false, eval e X.env) :: starEach [] X.env := by rfl) (hpl : (backTo pos (starEach [] X.env)).any (·.1) = false := by rfl) :
    PE X (.Call (.Name x p) [e] [] pos) (tZ X.kw bs (eCallT G f)) := (pe_c1 c hgd hr hk hg (pa_cons h0 pa_nil he) hdb he hpl).wk fun σ H Q q => callT_of σ H Q q
end
/-! ### a, b = e, f where a name is held by a cell: by a tuple -/
def gSet (is : List Nat) : TGs := fun vs σ H Q => vs.length = is.length ∧ Q (setVs σ is vs) H
section
variable {X : Cx} {bs : Bs} {fr : Md} {i : Nat} {is : List Nat} {e : Expr} {es vals : List Expr} {q : Qx} {pos pt p2 : Pos}
theorem n_nil : PGs X [] (gSet []) := pgs_nil.wk fun v σ H Q ⟨h, q⟩ => by
  have : v = [] := List.eq_nil_of_length_eq_zero h
  subst this
  exact ⟨rfl, q⟩
theorem n_cons (h1 : PG X e (gName i)) (h2 : PGs X es (gSet is)) (hs : (assignEach (e :: es) X.env).map (·.2) = assign e X.env :: (assignEach es X.env).map (·.2) := by rfl) : PGs X (e :: es) (gSet (i :: is)) := (pgs_cons h1 h2 hs).wk fun v σ H Q ⟨h, q⟩ => by
  cases v with
  | nil => cases h
  | cons v vs => exact ⟨v, vs, rfl, Nat.succ.inj h, q⟩
theorem parT_of {K : KW} {X : Cx} (hq : PQ X bs vals is q) (hK : X.kw = K) (D : Ends) (σ : L2.St) (H : Hp) (w : tS K bs fr (sPar q) D σ H) : tQ K bs q σ H fun vs H1 => vs.length = is.length ∧ ∀ p, H1 p = none → D.nx (setVs σ is vs) (upd H1 p (.tup vs)) := by
  obtain ⟨Hf, Γ, fl, Γ', s, e, w⟩ := w
  unfold sPar at e
  rw [Option.map_eq_some_iff] at e
  obtain ⟨⟨ps, Γ1⟩, e1, e⟩ := e
  cases e
  have hsl := hq.sl _ _ _ e1
  refine ⟨Hf, Γ, ps, Γ1, s, e1, fun vs as Hf1 H1 s1 x1 r1 => ?_⟩
  have hl : vs.length = ps.length := by
    clear hsl e1 w
    induction r1 with
    | nil => rfl
    | val _ _ ih => exact congrArg Nat.succ ih
    | own _ _ _ _ _ ih => exact congrArg Nat.succ ih
  have hN : ∀ a ∈ as, bs.B a = none ∧ ∀ j, mu Γ1 j → σ[j]? ≠ some (some (.ref a)) := by
    clear hsl e1 w hl
    induction r1 with
    | nil => intro a ha; cases ha
    | val _ _ ih => exact ih
    | own h0 _ _ _ _ ih =>
      intro c hc
      rcases List.mem_cons.mp hc with rfl | hc
      · exact ⟨s.bnone h0, fun j m ej => s.mune (x1.k j m) ej h0 rfl⟩
      · exact ih c hc
  refine ⟨by rw [hl, ← hsl, List.length_map], fun p np => ?_⟩
  rw [← hsl]
  exact w _ _ _ ((StR.setAll r1 s1 hN).made np) x1.f
theorem s_parT {k k2 : Nat} (hc : X.calm = true) (ha : PQ X bs vals is q) (ht : PGs X es (gSet is)) (hz : is.length ≤ 1000) (hn : (assignEach es X.env).length = is.length := by rfl) (hst : (assignEach es X.env).findIdx? (·.1) = none := by rfl)
    (hs : swapsWithSole [.Tuple es k pt] (.Tuple vals k2 p2) pos.line X.env = pure false := by rfl) (hw : swappedStores [.Tuple es k pt] (.Tuple vals k2 p2) X.env = pure none := by rfl) (h1 : (assignEach [.Tuple es k pt] X.env).map (·.2) = [assign (.Tuple es k pt) X.env] := by rfl) :
    PS X (.Assign [.Tuple es k pt] (.Tuple vals k2 p2) pos) (tS X.kw bs fr (sPar q)) := (ps_asg (pe_tup ha.run) (pg_tup hc ht hn hst) hs hw h1).wk fun D σ H w => by
  obtain ⟨Hf, Γ, ps, Γ', s, e, w⟩ := parT_of ha rfl D σ H w
  refine ⟨Hf, Γ, ps, Γ', s, e, fun vs as Hf' H' s' x r => ?_⟩
  obtain ⟨hl, w⟩ := w vs as Hf' H' s' x r
  exact ⟨by rw [hl]; exact Nat.le_trans hz (by decide), fun p np => ⟨p, vs, rfl, SqT.of upd_same, hl, hl, w p np⟩⟩
end
theorem un65 {k : Nat} {A : Around} (r : Room k A) : A.units + 65 < cLine := by have := r.un; omega
end Zd

set_option maxHeartbeats 4000000
/-! Dicts whose keys are ints and strings. -/
namespace Zd
open PySem PySem.Spec PyProof.Rows L2 Pd
def keyD : D → Option Key
  | .int i => some (.inl i)
  | .str x => some (.inr x)
  | _ => none
def dctOf : D → Option (List (Key × D))
  | .dct kvs => some kvs
  | _ => none
def valD (kvs : List (Key × D)) (k : Key) : Option D := (kvs.find? fun kv => decide (kv.1 = k)).map (·.2)
def putD (kvs : List (Key × D)) (k : Key) (v : D) : List (Key × D) :=
  if (kvs.any fun kv => decide (kv.1 = k)) = true then kvs.map (fun kv => if kv.1 = k then (kv.1, v) else kv) else kvs ++ [(k, v)]
def dgetD (x y : D) : Option D := (dctOf x).bind fun kvs => (keyD y).bind fun k => valD kvs k
def dinD (y x : D) : Option D := (dctOf x).bind fun kvs => (keyD y).map fun k => .bl (valD kvs k).isSome
def dniD (y x : D) : Option D := (dctOf x).bind fun kvs => (keyD y).map fun k => .bl (!(valD kvs k).isSome)
section
variable {K : KW} {Hf H H' : Hp} {v : V} {d : D} {k : Key} {ks : List (Key × V)} {kvs : List (Key × D)}
theorem key_rd (h : RdH K Hf H v d) (e : keyD d = some k) : v = kV k := by
  cases d with
  | int i =>
    have e : some (Sum.inl i) = some k := e
    cases e
    rcases h with h | ⟨a, _, c⟩
    · cases h; rfl
    · exact c.elim
  | str x =>
    have e : some (Sum.inr x) = some k := e
    cases e
    rcases h with h | ⟨a, _, c⟩
    · cases h; rfl
    · exact c.elim
  | _ => cases e
theorem dctOf_some (e : dctOf d = some kvs) : d = .dct kvs := by
  cases d with
  | dct l => exact congrArg D.dct (Option.some.inj e)
  | _ => cases e
theorem rd_dK (z : Same Hf H) (h : RdH K Hf H v (.dct kvs)) : ∃ a ks, v = .ref a ∧ H a = some (.dK ks) ∧ RepKV K Hf ks kvs := by
  rcases h with h | ⟨a, rfl, c⟩
  · cases h with
    | dct h1 h2 => exact ⟨_, _, rfl, z _ _ h1, h2⟩
  · obtain ⟨ks, e, r⟩ := c
    exact ⟨a, ks, rfl, e, r⟩
theorem RepKV.val : ∀ {ks : List (Key × V)} {kvs : List (Key × D)}, RepKV K H ks kvs → ∀ k, (valD kvs k = none → valV ks k = none) ∧ ∀ d, valD kvs k = some d → ∃ v, valV ks k = some v ∧ Rep K H v d
  | [], [], .nil, k => ⟨fun _ => rfl, fun d e => by cases e⟩
  | (k0, v0) :: ks, (_, d0) :: kvs, .cons h t, k => by
    obtain ⟨i1, i2⟩ := RepKV.val t k
    by_cases hk : k0 = k
    · have e1 : valD ((k0, d0) :: kvs) k = some d0 := by unfold valD; rw [List.find?_cons_of_pos (by exact decide_eq_true hk)]; rfl
      rw [e1, valV_pos hk]
      exact ⟨fun e => (by cases e), fun d e => by cases e; exact ⟨_, rfl, h⟩⟩
    · have e1 : valD ((k0, d0) :: kvs) k = valD kvs k := by unfold valD; rw [List.find?_cons_of_neg (by simp [hk])]
      rw [e1, valV_neg hk]
      exact ⟨i1, i2⟩
theorem RepKV.isSome (r : RepKV K H ks kvs) : (valV ks k).isSome = (valD kvs k).isSome := by
  obtain ⟨h1, h2⟩ := r.val k
  cases e : valD kvs k with
  | none => rw [h1 e]; rfl
  | some d => obtain ⟨v, e2, _⟩ := h2 d e; rw [e2]; rfl
theorem RepKV.anyK : ∀ {ks : List (Key × V)} {kvs : List (Key × D)}, RepKV K H ks kvs → (ks.any fun kv => decide (kv.1 = k)) = kvs.any fun kv => decide (kv.1 = k)
  | [], [], .nil => rfl
  | _ :: ks, _ :: kvs, .cons h t => by rw [List.any_cons, List.any_cons, RepKV.anyK t]
theorem RepKV.mapK (hv : Rep K H v d) : ∀ {ks : List (Key × V)} {kvs : List (Key × D)}, RepKV K H ks kvs → RepKV K H (ks.map fun kv => if kv.1 = k then (kv.1, v) else kv) (kvs.map fun kv => if kv.1 = k then (kv.1, d) else kv)
  | [], [], .nil => .nil
  | (k0, v0) :: ks, (_, d0) :: kvs, .cons h t => by
    rw [List.map_cons, List.map_cons]
    by_cases hk : k0 = k
    · rw [if_pos hk, if_pos hk]; exact .cons hv (RepKV.mapK hv t)
    · rw [if_neg hk, if_neg hk]; exact .cons h (RepKV.mapK hv t)
theorem RepKV.snoc (hv : Rep K H v d) : ∀ {ks : List (Key × V)} {kvs : List (Key × D)}, RepKV K H ks kvs → RepKV K H (ks ++ [(k, v)]) (kvs ++ [(k, d)])
  | [], [], .nil => .cons hv .nil
  | _ :: ks, _ :: kvs, .cons h t => .cons h (RepKV.snoc hv t)
theorem RepKV.put (r : RepKV K H ks kvs) (hv : Rep K H v d) : RepKV K H (putK ks k v) (putD kvs k d) := by
  unfold putK putD
  rw [r.anyK]
  split
  · exact r.mapK hv
  · exact r.snoc hv
end
section
variable {X : Cx} {bs : Bs} {fr : Md} {o i e c value : Expr} {pos p2 : Pos} {fo go : Ox} {f : Ex} {j : Nat}
theorem z_dget (hu : X.A.units + 1 < cLine) (ho : PE X o (tO X.kw bs fo)) (hi : PE X i (tO X.kw bs go)) (hs : NoSl i) : PE X (.Subscript o i pos) (tZ X.kw bs (eOp2 dgetD fo go)) :=
  (pe_dget hu ho hi hs).wk fun σ H Q h => tOp_of (rr := fun x y H Q => ∃ a v, x = .ref a ∧ DGet H a y (some v) ∧ Q v H) (fun x y H Q q => by
    obtain ⟨σ, Hf, Γ, dx, dy, d, st, rx, ry, e, q⟩ := q
    unfold dgetD at e
    rw [Option.bind_eq_some_iff] at e
    obtain ⟨kvs, e1, e⟩ := e
    rw [Option.bind_eq_some_iff] at e
    obtain ⟨k, e2, e⟩ := e
    cases dctOf_some e1
    cases key_rd ry e2
    obtain ⟨a, ks, rfl, h1, h2⟩ := rd_dK st.fz rx
    obtain ⟨v, h3, h4⟩ := (h2.val k).2 d e
    refine ⟨a, v, rfl, ?_, q.rest st h4⟩
    rw [← h3]
    exact DGet.k h1) σ H Q h
theorem rDin {K : KW} (neg : Bool) {r : D → D → Option D} (hr : ∀ y kvs k, keyD y = some k → r y (.dct kvs) = some (.bl (if neg then !(valD kvs k).isSome else (valD kvs k).isSome))) (hn : ∀ y x d, r y x = some d → ∃ kvs k, x = .dct kvs ∧ keyD y = some k) (y x : V) (H : Hp) (Q : VK) (q : rZ K bs r y x H Q) :
    ∃ a o, x = .ref a ∧ DGet H a y o ∧ Q (.bl (if neg then !o.isSome else o.isSome)) H := by
  obtain ⟨σ, Hf, Γ, dy, dx, d, st, ry, rx, e, q⟩ := q
  obtain ⟨kvs, k, rfl, e2⟩ := hn _ _ _ e
  rw [hr _ _ _ e2] at e
  cases e
  cases key_rd ry e2
  obtain ⟨a, ks, rfl, h1, h2⟩ := rd_dK st.fz rx
  refine ⟨a, valV ks k, rfl, DGet.k h1, ?_⟩
  rw [h2.isSome]
  exact q.rest st (.bl _)
theorem dinD_ok (y : D) (kvs : List (Key × D)) (k : Key) (e : keyD y = some k) : dinD y (.dct kvs) = some (.bl (if false then !(valD kvs k).isSome else (valD kvs k).isSome)) := by
  unfold dinD
  show (keyD y).map _ = _
  rw [e]
  rfl
theorem dniD_ok (y : D) (kvs : List (Key × D)) (k : Key) (e : keyD y = some k) : dniD y (.dct kvs) = some (.bl (if true then !(valD kvs k).isSome else (valD kvs k).isSome)) := by
  unfold dniD
  show (keyD y).map _ = _
  rw [e]
  rfl
theorem dinD_some (y x d : D) (e : dinD y x = some d) : ∃ kvs k, x = .dct kvs ∧ keyD y = some k := by
  unfold dinD at e
  rw [Option.bind_eq_some_iff] at e
  obtain ⟨kvs, e1, e⟩ := e
  rw [Option.map_eq_some_iff] at e
  obtain ⟨k, e2, _⟩ := e
  exact ⟨kvs, k, dctOf_some e1, e2⟩
theorem dniD_some (y x d : D) (e : dniD y x = some d) : ∃ kvs k, x = .dct kvs ∧ keyD y = some k := by
  unfold dniD at e
  rw [Option.bind_eq_some_iff] at e
  obtain ⟨kvs, e1, e⟩ := e
  rw [Option.map_eq_some_iff] at e
  obtain ⟨k, e2, _⟩ := e
  exact ⟨kvs, k, dctOf_some e1, e2⟩
theorem z_din (hu : X.A.units + 1 < cLine) (hi : PE X i (tO X.kw bs fo)) (ho : PE X o (tO X.kw bs go)) (h1 : behindInMarks .In o = false := by rfl) : PE X (.Compare i [.In] [o] pos) (tZ X.kw bs (eOp2 dinD fo go)) :=
  (pe_cmp (pc_din hu hi ho) h1).wk fun σ H Q h => tOp_of (rr := fun y x H Q => ∃ a o, x = .ref a ∧ DGet H a y o ∧ Q (.bl o.isSome) H) (fun y x H Q q => rDin false dinD_ok dinD_some y x H Q q) σ H Q h
theorem z_dnin (hu : X.A.units + 1 < cLine) (hi : PE X i (tO X.kw bs fo)) (ho : PE X o (tO X.kw bs go)) (h1 : behindInMarks .NotIn o = false := by rfl) : PE X (.Compare i [.NotIn] [o] pos) (tZ X.kw bs (eOp2 dniD fo go)) :=
  (pe_cmp (pc_dnotin hu hi ho) h1).wk fun σ H Q h => tOp_of (rr := fun y x H Q => ∃ a o, x = .ref a ∧ DGet H a y o ∧ Q (.bl (!o.isSome)) H) (fun y x H Q q => rDin true dniD_ok dniD_some y x H Q q) σ H Q h
theorem x_din (hu : X.A.units + 1 < cLine) (hi : PE X i (tO X.kw bs fo)) (ho : PE X o (tO X.kw bs go)) (h1 : behindInMarks .In o = false := by rfl) : PT X (.Compare i [.In] [o] pos) (tX X.kw bs (xB (eOp2 dinD fo go))) :=
  (pt_cmp (pc_din hu hi ho) h1).wk fun σ H Q h => by
    have := tTest_of σ H Q h
    exact tOp_of (rr := fun y x H Q => ∃ a o, x = .ref a ∧ DGet H a y o ∧ Q (.bl o.isSome) H) (fun y x H Q q => rDin false dinD_ok dinD_some y x H Q q) σ H _ this
theorem x_dnin (hu : X.A.units + 1 < cLine) (hi : PE X i (tO X.kw bs fo)) (ho : PE X o (tO X.kw bs go)) (h1 : behindInMarks .NotIn o = false := by rfl) : PT X (.Compare i [.NotIn] [o] pos) (tX X.kw bs (xB (eOp2 dniD fo go))) :=
  (pt_cmp (pc_dnotin hu hi ho) h1).wk fun σ H Q h => by
    have := tTest_of σ H Q h
    exact tOp_of (rr := fun y x H Q => ∃ a o, x = .ref a ∧ DGet H a y o ∧ Q (.bl (!o.isSome)) H) (fun y x H Q q => rDin true dniD_ok dniD_some y x H Q q) σ H _ this
theorem un1 {k : Nat} {A : Around} (r : Room k A) : A.units + 1 < cLine := by have := r.un; omega
/-- {} -/
def eDNew : Ex := fun Γ => some (.dct [], Γ)
theorem f_dnew : PE X (.Dict [] [] pos) (tF X.kw bs eDNew) := pe_dnewK.wk fun σ H Q hq => by
  obtain ⟨Hf, Γ, d, Γ', st, e, q⟩ := hq
  have e : some (D.dct [], Γ) = some (d, Γ') := e
  cases e
  exact fun p np => q p Hf _ (st.made np) (st.madeX np) np (st.fnone np) ⟨[], upd_same, .nil⟩
end
end Zd

set_option maxHeartbeats 4000000
/-! Dicts: stores, one-pair displays, sorted(d); t[::-1] of lists and tuples. -/
namespace Zd
open PySem PySem.Spec PyProof.Rows L2 Pd
def muK (Γ : Gm) (i : Nat) : Option (List (Key × D)) := (muD Γ i).bind dctOf
def sDput (i : Nat) (f : Ex) (fo : Ox) : Sx := fun Γ => (f Γ).bind fun p => (muK p.2 i).bind fun _ => (fo p.2).bind fun q => (q.1.get q.2).bind fun k => (keyD k).bind fun k => (muK q.2 i).bind fun kvs => if kvs.length < 10000000 then some (.nx, putS q.2 i (.dct (putD kvs k p.1))) else none
def eDict1 (fo : Ox) (f : Ex) : Ex := fun Γ => (fo Γ).bind fun p => (f p.2).bind fun q => (p.1.get q.2).bind fun k => (keyD k).map fun k => (.dct [(k, q.1)], q.2)
def intKeys : List (Key × D) → Option (List Int)
  | [] => some []
  | (.inl i, _) :: r => (intKeys r).map fun ns => i :: ns
  | _ => none
def sortKD : List D → Option D
  | [.dct kvs] => (intKeys kvs).map fun ns => .lst ((sortI ns).map D.int)
  | _ => none
def eRev2 (f : Ox) : Ex := fun Γ => (f Γ).bind fun p => (p.1.get p.2).bind fun d => match d with
  | .tup ds => some (.tup ds.reverse, p.2)
  | .lst ds => some (.lst ds.reverse, p.2)
  | _ => none
section
variable {K : KW} {b : Bs} {Hf H : Hp} {σ : L2.St} {Γ : Gm} {i : Nat}
theorem muK_at {kvs : List (Key × D)} (s : StR K b Hf H σ Γ) (e : muK Γ i = some kvs) : ∃ a ks, σ[i]? = some (some (.ref a)) ∧ H a = some (.dK ks) ∧ RepKV K Hf ks kvs ∧ muD Γ i = some (.dct kvs) := by
  unfold muK at e
  rw [Option.bind_eq_some_iff] at e
  obtain ⟨d, e1, e2⟩ := e
  have := dctOf_some e2
  subst this
  obtain ⟨m, g⟩ := muD_mu e1
  obtain ⟨a, d, h1, h2, h3, h4, _⟩ := s.muAt m
  rw [g] at h2
  cases h2
  obtain ⟨xs, h5, h6⟩ := h4
  exact ⟨a, xs, h1, h5, h6, e1⟩
theorem intKeys_some : ∀ {kvs : List (Key × D)} {ns : List Int}, intKeys kvs = some ns → kvs.map (·.1) = ns.map Sum.inl
  | [], _, e => by cases e; rfl
  | (.inl i, _) :: r, _, e => by
    rw [intKeys, Option.map_eq_some_iff] at e
    obtain ⟨ns, e1, rfl⟩ := e
    rw [List.map_cons, List.map_cons, intKeys_some e1]
  | (.inr _, _) :: r, _, e => by cases e
theorem RepKV.keys : ∀ {ks : List (Key × V)} {kvs : List (Key × D)}, RepKV K H ks kvs → ks.map (·.1) = kvs.map (·.1)
  | [], [], .nil => rfl
  | _ :: _, _ :: _, .cons _ t => by rw [List.map_cons, List.map_cons, RepKV.keys t]
end
section
variable {X : Cx} {bs : Bs} {fr : Md} {o e c value : Expr} {pos p2 : Pos} {fo go : Ox} {f : Ex} {i : Nat}
theorem s_dput (hu : X.A.units + 1 < cLine) (he : PE X e (tZ X.kw bs f)) (ho : PE X o (tVar i)) (hi : PE X c (tO X.kw bs fo)) (hs : swapsWith e (some (.Subscript o c p2)) pos.line X.env = pure false := by rfl) :
    PS X (.Assign [.Subscript o c p2] e pos) (tS X.kw bs fr (sDput i f fo)) := (ps_dput hu ho hi he hs).wk fun D σ H ⟨Hf, Γ, fl, Γ', st, e, q⟩ => by
  unfold sDput at e
  rw [Option.bind_eq_some_iff] at e
  obtain ⟨⟨d1, Γ1⟩, e1, e⟩ := e
  rw [Option.bind_eq_some_iff] at e
  obtain ⟨ds0, e0, e⟩ := e
  rw [Option.bind_eq_some_iff] at e
  obtain ⟨⟨o2, Γ2⟩, e2, e⟩ := e
  rw [Option.bind_eq_some_iff] at e
  obtain ⟨dk, e3, e⟩ := e
  rw [Option.bind_eq_some_iff] at e
  obtain ⟨k, e4, e⟩ := e
  rw [Option.bind_eq_some_iff] at e
  obtain ⟨kvs, e5, e⟩ := e
  split at e
  · rename_i hl
    cases e
    refine ⟨Hf, Γ, d1, Γ1, st, e1, fun v Hf1 H1 s1 x1 r1 => ?_⟩
    obtain ⟨a, xs0, h1, h2, h3, _⟩ := muK_at s1 e0
    refine ⟨.ref a, h1, Hf1, Γ1, o2, Γ2, s1, e2, fun w Hf2 H2 s2 x2 r2 => ?_⟩
    obtain ⟨a', ks, h1', h4, h5, h6⟩ := muK_at s2 e5
    rw [h1] at h1'
    cases h1'
    have rd := ovRd s2 r2 e3
    cases key_rd rd e4
    obtain ⟨s3, x3⟩ := s2.put (o := .dK (putK ks k v)) h6 h1 (d' := .dct (putD kvs k d1)) ⟨_, upd_same, h5.put (r1.mono x2.f)⟩
    exact ⟨a, _, rfl, DPut.k h4 (by rw [h5.len, sizeLine_eq]; omega), q _ _ _ s3 ((x1.f.trans x2.f).trans x3.f)⟩
  · cases e
theorem f_dict1 {k v : Expr} (hk : PE X k (tO X.kw bs fo)) (hv : PE X v (tZ X.kw bs f)) : PE X (.Dict [some k] [v] pos) (tF X.kw bs (eDict1 fo f)) :=
  (pe_disp (pps_cons hk hv pps_nil) rfl rfl (by simp) (by simp)).wk fun σ H Q ⟨Hf, Γ, d, Γ', st, e, q⟩ => by
  unfold eDict1 at e
  rw [Option.bind_eq_some_iff] at e
  obtain ⟨⟨o1, Γ1⟩, e1, e⟩ := e
  rw [Option.bind_eq_some_iff] at e
  obtain ⟨⟨d2, Γ2⟩, e2, e⟩ := e
  rw [Option.bind_eq_some_iff] at e
  obtain ⟨dk, e3, e⟩ := e
  rw [Option.map_eq_some_iff] at e
  obtain ⟨k, e4, e⟩ := e
  cases e
  intro p np
  refine ⟨Hf, Γ, o1, Γ1, st.made np, e1, fun w Hf1 H1 s1 x1 r1 => ⟨Hf1, Γ1, d2, Γ2, s1, e2, fun y Hf2 H2 s2 x2 r2 => ?_⟩⟩
  have hmu : ∀ j, mu Γ j → σ[j]? ≠ some (some (.ref p)) := fun j m ej => st.mune m ej np rfl
  have hp : H2 p = some (.dK []) := x2.h p _ (x1.h p _ upd_same hmu) fun j m => hmu j (x1.k j m)
  cases key_rd (ovRd s2 (r1.mono x2.f) e3) e4
  have x12 := (st.madeX (o := .dK []) np).trans (x1.trans x2)
  have hfp : Hf2 p = none := by
    cases z : Hf2 p with
    | none => rfl
    | some u =>
      rcases x12.n p u z with z' | z'
      · rw [st.fnone np] at z'; cases z'
      · have h2 := s2.fz p u z
        rcases x2.n p u z with h3 | h3
        · rcases x1.n p u h3 with h4 | h4
          · rw [st.fnone np] at h4; cases h4
          · rw [upd_same] at h4; cases h4
        · rw [x1.h p _ upd_same hmu] at h3; cases h3
  refine ⟨hp, [(k, y)], rfl, by simp, ?_⟩
  have hup : ∀ a o, H2 a = some o → a ≠ p → (upd H2 p (.dK [(k, y)])) a = some o := fun a o q n => by rw [upd_ne n]; exact q
  refine q p Hf2 _ ?_ ?_ np hfp ⟨[(k, y)], by show upd H2 p (.dK (mergeK [] [(k, y)])) p = _; rw [upd_same]; rfl, .cons r2 .nil⟩
  · refine ⟨s2.len, fun j w g a1 a2 => ?_, s2.inj, fun a o ea => ?_, s2.f0, s2.fresh, fun a o ea => ?_, fun a o ea hr => ?_⟩
    · have ne : ∀ a, mu Γ2 j → σ[j]? = some (some (.ref a)) → a ≠ p := fun a m ej h => hmu j (x1.k j (x2.k j m)) (h ▸ ej)
      cases s2.sl j w g a1 a2 with
      | no => exact .no
      | fn r => exact .fn r
      | val r => exact .val r
      | own n1 c hb => exact .own n1 (c.mono (Same.refl _) (upd_ne (ne _ ⟨_, .inl a2⟩ a1))) hb
      | byr n1 c hb => exact .byr n1 (c.mono (Same.refl _) (upd_ne (ne _ ⟨_, .inr a2⟩ a1))) hb
    · rw [upd_ne (fun h => by subst h; rw [hfp] at ea; cases ea)]; exact s2.fz a o ea
    · obtain ⟨o', q'⟩ := s2.dom a o ea
      by_cases ha : a = p
      · subst ha; exact ⟨_, upd_same⟩
      · exact ⟨o', by rw [upd_ne ha]; exact q'⟩
    · rw [upd_ne (fun h => by subst h; rw [st.bnone np] at ea; cases ea)]; exact s2.fr a o ea hr
  · refine ⟨x12.f, fun a o ea hn => ?_, x12.n, fun a o ea => ?_, x12.k⟩
    · rw [upd_ne (fun h => by subst h; rw [np] at ea; cases ea)]; exact x12.h a o ea hn
    · obtain ⟨o', q'⟩ := x12.dm a o ea
      by_cases ha : a = p
      · subst ha; exact ⟨_, upd_same⟩
      · exact ⟨o', by rw [upd_ne ha]; exact q'⟩
theorem cz_sortD (hc : X.calm = true) : CallR X (.builtin "sorted") (rZNF X.kw bs sortKD) := callWk (call_sortD hc) fun xs H Q h => by
  obtain ⟨σ, Hf, Γ, dx, d, st, rx, e, q⟩ := h
  unfold sortKD at e
  split at e
  · rw [Option.map_eq_some_iff] at e
    obtain ⟨ns, e1, rfl⟩ := e
    obtain ⟨x, rfl, rx1⟩ := rds1 rx; replace rx := rx1
    obtain ⟨a, ks, rfl, h1, h2⟩ := rd_dK st.fz rx
    refine ⟨a, ks, ns, rfl, .inl h1, h2.keys.trans (intKeys_some e1), fun ns' p h3 h4 np => ?_⟩
    rw [asc_uniq h4 (sortI_sorted ns) (h3.trans (sortI_perm ns).symm)]
    exact q.lst st np (RepAll.intsV _)
  · cases e
theorem PE.or {t u : TE} (h1 : PE X e t) (h2 : PE X e u) : PE X e (fun σ H Q => t σ H Q ∨ u σ H Q) := ⟨fun pins s σ H Q I h => h.elim (h1.run pins s σ H Q I) (h2.run pins s σ H Q I)⟩
theorem z_rev2 {k : Nat} {p1 p3 : Pos} (he : PE X e (tO X.kw bs fo)) : PE X (.Subscript e (.Slice none none (some (.UnaryOp .USub (.Constant (.int 1) k p1) p2)) p3) pos) (tZ X.kw bs (eRev2 fo)) := (PE.or (pe_revT he) (pe_revL he)).wk fun σ H Q hq => by
  obtain ⟨Hf, Γ, d, Γ', st, e, q⟩ := hq
  unfold eRev2 at e
  rw [Option.bind_eq_some_iff] at e
  obtain ⟨⟨o1, Γ1⟩, e1, e⟩ := e
  rw [Option.bind_eq_some_iff] at e
  obtain ⟨dx, e3, e⟩ := e
  split at e
  · cases e
    refine .inl ⟨Hf, Γ, o1, _, st, e1, fun v Hf1 H1 s1 x1 r1 => ?_⟩
    obtain ⟨a, us, rfl, h1, h1', h2⟩ := rd_tup s1.fz (ovRd s1 r1 e3)
    exact ⟨a, us, rfl, h1, fun p np => q _ _ _ (s1.laid np) (x1.trans (s1.laidX np)) (.tup (SqT.of upd_same) (h2.rev.mono (sameNew (s1.fnone np))))⟩
  · cases e
    refine .inr ⟨Hf, Γ, o1, _, st, e1, fun v Hf1 H1 s1 x1 r1 => ?_⟩
    obtain ⟨a, us, rfl, h1, h2⟩ := rd_lst s1.fz (ovRd s1 r1 e3)
    exact ⟨a, us, rfl, SqL.of h1, fun p np => q _ _ _ (s1.laid np) (x1.trans (s1.laidX np)) (.lst upd_same (h2.rev.mono (sameNew (s1.fnone np))))⟩
  · cases e
end
end Zd

set_option maxHeartbeats 4000000
/-! (*t, x) -/
namespace Zd
open PySem PySem.Spec PyProof.Rows L2 Pd StX
def itemsD : D → Option (List D)
  | .tup ds => some ds
  | .lst ds => some ds
  | _ => none
def vsS (f : Ex) (fs : Exs) : Exs := fun Γ => (f Γ).bind fun p => (itemsD p.1).bind fun xs => if xs.length ≤ 1000 then (fs p.2).map fun q => (xs ++ q.1, q.2) else none
section
variable {X : Cx} {bs : Bs} {e : Expr} {es : List Expr} {p : Pos} {f : Ex} {fs : Exs}
theorem vs_star (h1 : PE X e (tZ X.kw bs f)) (h2 : PA X es (tVs X.kw bs fs)) (hs : starEach (.Starred e p :: es) X.env = (true, eval e X.env) :: starEach es X.env := by rfl) : PA X (.Starred e p :: es) (tVs X.kw bs (vsS f fs)) := (pa_star h1 h2 hs).wk fun σ H Q ⟨Hf, Γ, o, Γ', st, e, q⟩ => by
  unfold vsS at e
  rw [Option.bind_eq_some_iff] at e
  obtain ⟨⟨d1, Γ1⟩, e1, e⟩ := e
  rw [Option.bind_eq_some_iff] at e
  obtain ⟨xs, e2, e⟩ := e
  split at e
  · rw [Option.map_eq_some_iff] at e
    obtain ⟨⟨o2, Γ2⟩, e3, e4⟩ := e
    cases e4
    refine ⟨Hf, Γ, d1, Γ1, st, e1, fun v Hf1 H1 s1 x1 r1 => ?_⟩
    have fin : ∀ a us, (SqT X.K H1 a us ∨ SqL X.K H1 a us) → v = .ref a → RepAll X.kw Hf1 us xs → ∃ a us, v = .ref a ∧ (SqT X.K H1 a us ∨ SqL X.K H1 a us) ∧ tVs X.kw bs fs σ H1 fun vs H3 => Q (us ++ vs) H3 := fun a us h1 h2 h3 =>
      ⟨a, us, h2, h1, Hf1, Γ1, o2, Γ2, s1, e3, fun vs Hf2 H2 s2 x2 r2 => q _ Hf2 H2 s2 (x1.trans x2) ((h3.mono x2.f).append r2)⟩
    cases d1 with
    | tup ds =>
      cases e2
      obtain ⟨a, us, rfl, h1, h1', h2⟩ := rd_tup s1.fz (.inl r1)
      exact fin a us (.inl h1) rfl h2
    | lst ds =>
      cases e2
      obtain ⟨a, us, rfl, h1, h2⟩ := rd_lst s1.fz (.inl r1)
      exact fin a us (.inr (SqL.of h1)) rfl h2
    | _ => cases e2
  · cases e
theorem len_vsS {n : Nat} (h : ∀ Γ ds Γ', fs Γ = some (ds, Γ') → ds.length ≤ n) : ∀ Γ ds Γ', vsS f fs Γ = some (ds, Γ') → ds.length ≤ n + 1000 := fun Γ ds Γ' e => by
  unfold vsS at e
  rw [Option.bind_eq_some_iff] at e
  obtain ⟨⟨d1, Γ1⟩, e1, e⟩ := e
  rw [Option.bind_eq_some_iff] at e
  obtain ⟨xs, e2, e⟩ := e
  split at e
  · rename_i hl
    rw [Option.map_eq_some_iff] at e
    obtain ⟨⟨o2, Γ2⟩, e3, e4⟩ := e
    cases e4
    have := h _ _ _ e3
    show (xs ++ o2).length ≤ _
    rw [List.length_append]
    omega
  · cases e
end
theorem sqT_const {K : KW} {H : Hp} {a : Addr} {o : Obj} {vs : List Value} {n : Nat} {xs : List V} (l : K.f.lookup a = some o) (c : o.cls = .type "tuple") (d : o.data = .seq vs.toArray n) (r : Vals xs vs) (hl : vs.length ≤ 1000 := by simp) : SqT K.f H a xs :=
  .inr ⟨o, vs.toArray, n, l, c, d, by rw [sizeLine_eq, List.size_toArray]; omega, by simpa using r⟩
end Zd

set_option maxHeartbeats 4000000
/-! sorted(set(xs)), xs a list of ints -/
namespace Zd
open PySem PySem.Spec PyProof.Rows L2 Pd
abbrev emp (w : World) : Obj := { cls := .type "set", dict := none, data := .set #[] 0 (.fresh 0 0 (!w.params.followText "set-order")) }
section
variable {P : Program} {w : World} {A : Around} {E : Value → Shared → Prop} {s : Shared}
set_option maxHeartbeats 16000000 in
theorem set_ofL {l : Addr} {xs : Array Value} (ns : List Int) {Q : Value → Shared → Prop} (calm : A.handled = none) (isl : s.heap.IsList l xs) (hns : IntsAre xs.toList ns) (few : ns.length + 1 < scanBound)
    (k : ∀ (h2 : Heap) (tk c : Nat), SetR w h2 s.heap.objs.size (fun j => decide (j ∈ ns)) c → c ≤ ns.length → (∀ b o, s.heap.get? b = some o → h2.get? b = some o) → Q (.ref s.heap.objs.size) { s with heap := h2, toks := tk }) :
    wpAny (model P w) A (call (.type "set") [.ref l]) Q E s := by
  have size : xs.size = ns.length := by have z := IntsAre.length hns; rwa [Array.length_toList] at z
  obtain ⟨_, _, m1⟩ := F.called_set.mro
  have m2 := F.called_set.made; have m3 := F.called_set.sub
  refine wpAny_call (codeAny_of_tree ?_); show wpAny _ _ (callAny (.type "set") _) _ _ _
  refine wpAny_pure
    ⟨Code.quiet_builtin _ (by decide +kernel),
      codeAny_builtin F.entry_type_call ?_⟩
  rw [Around.under_plain (weight_type_call_type "set"
    [.ref l] []) rfl]
  have m4 := F.called_set.notType; have m5 := F.called_set.canCreate; have m6 := F.typeCall_set_1 (.ref l)
  repeat (any_goals (first | assumption | wp_step | fail))
  refine codeAny_mono (code_set_led1 (.ref l) (E := E) (Q₁ := fun v s' => v = .ref s.heap.objs.size ∧ s' = { s with heap := s.heap.push (emp w) }) ⟨rfl, rfl⟩) fun r s1 hr => ?_
  match r, hr with
  | .error _, hr => exact hr
  | .ok (.ret _), hr =>
    obtain ⟨rfl, rfl⟩ := hr
    have gS : (s.heap.push (emp w)).get? s.heap.objs.size = some (emp w) := Heap.get?_push_size _ rfl
    have tS : Shared.TypeIs { s with heap := s.heap.push (emp w) } (.ref s.heap.objs.size) "set" := ⟨_, gS, rfl⟩
    have m7 := F.called_set.init.lookup; have m8 := F.called_set.init.bind (.ref s.heap.objs.size)
    repeat (any_goals (first | assumption | wp_step | fail))
    refine codeAny_mono (codeAny_call_builtin (R := wants (fun v s' => v = .none ∧ ∃ h2 tk c, s' = { s with heap := h2, toks := tk } ∧ SetR w h2 s.heap.objs.size (fun j => decide (j ∈ ns)) c ∧ c ≤ ns.length ∧ (∀ b o, s.heap.get? b = some o → h2.get? b = some o)) E)
      F.called_set.init.plain F.entry_set_init (check_set_init_1 tS ?_)) fun r2 s2 hr2 => ?_
    · obtain ⟨⟨oc, od, odt, osl⟩, g0, c0, n0, d0⟩ := isl
      simp only at c0 d0
      subst c0 d0
      have g1 : (s.heap.push (emp w)).get? l = some { cls := .type "list", dict := od, data := .seq xs n0, slots := osl } := Heap.get?_push_of_some _ g0
      have q1 := F.sub_list_set; have q2 := F.sub_list_frozenset
      have q3 : (Value.type "list" == Value.type "dict") = false := by decide
      have isl1 : (s.heap.push (emp w)).IsList l xs := ⟨_, g1, rfl, n0, rfl⟩
      unfold Builtin.«set.__init__» noKeywords; unfold Builtin.Frozenset.updateFrom
      generalize hPI : pyIter = PI
      wp_walk
      subst hPI
      refine wpAny_pyIter_list isl1 (wpAny_bind (wpAny_runValue ?_))
      have lS : l < s.heap.objs.size := Heap.lt_size g0
      have c3 : A.in1.in1.in1.handled = none := by simp [calm]
      have n1 : l ≠ (s.heap.push (emp w)).objs.size := by rw [Heap.size_push]; exact Nat.ne_of_lt (.step lS)
      have n2 : s.heap.objs.size ∉ [(s.heap.push (emp w)).objs.size, l] := by
        rw [Heap.size_push]
        intro z
        rcases List.mem_cons.mp z with z | z
        · exact Nat.ne_of_lt (Nat.lt_succ_self _) z
        · exact Nat.ne_of_gt lS (List.mem_singleton.mp z)
      have val : ∀ (i : Nat) (v : Value), xs[i]? = some v → ∃ k t, ns[i]? = some k ∧ v = .int k t := fun i v hv => by
        have hi : i < ns.length := by have := (Array.getElem?_eq_some_iff.mp hv).1; omega
        obtain ⟨t, e⟩ := IntsAre.int_at hns i v (by rw [Array.getElem?_toList]; exact hv)
        exact ⟨ns[i], t, List.getElem?_eq_getElem hi, by rw [e, List.getD_eq_getElem?_getD, List.getElem?_eq_getElem hi]; rfl⟩
      refine set_update_ints ((Walks.list c3 _ l n1 xs).toS) s.heap.objs.size n2 ns size few val (xs.size - 0) 0 _ (by omega) (Nat.zero_le _) ⟨⟨_, Heap.get?_push_size _ rfl, rfl, rfl⟩, (isl1.push _)⟩ ⟨0, Nat.le_refl 0, setR_new_at (Heap.get?_push_of_some _ gS)⟩ ?_
      intro s3 c mv hc hS3
      obtain ⟨h3, g3, d3, t3, o3⟩ := s3
      have z1 : g3 = s.gens := mv.gens; have z2 : d3 = s.drawn := mv.drawn; have z3 : o3 = s.os := mv.os
      subst z1 z2 z3
      show wpAny _ _ _ _ _ _
      refine wpAny_pure ?_
      show wpAny _ _ (ret Value.none) _ _ _
      refine wpAny_pure ⟨rfl, h3, t3, c, rfl, hS3, by omega, fun b o e => ?_⟩
      have b0 : b < s.heap.objs.size := Heap.lt_size e
      refine mv.heap b o ?_ (Heap.get?_push_of_some _ (Heap.get?_push_of_some _ e))
      rw [Heap.size_push]
      intro z
      rcases List.mem_cons.mp z with z | z
      · exact Nat.ne_of_lt b0 z
      · exact Nat.ne_of_lt (Nat.lt_succ_of_lt b0) (List.mem_singleton.mp z)
    · match r2, hr2 with
      | .error _, hr2 => exact hr2
      | .ok (.ret _), hr2 =>
        obtain ⟨rfl, h2, tk, c, rfl, a1, a2, a3⟩ := hr2
        repeat (any_goals (first | assumption | wp_step | fail))
        exact k _ _ _ a1 a2 a3
end
section
variable {X : Cx} {bs : Bs}
def rSetI (K : KW) (w : World) : List V → Hp → VK → Prop := fun vs H Q => ∃ (l : Addr) (ns : List Int), vs = [.ref l] ∧ SqL K.f H l (ns.map V.int) ∧ ns.length < 60 ∧ ∀ (p : Addr) (c : Nat), H p = none → c ≤ ns.length → Q (.ref p) (upd H p (SetO w p (fun j => decide (j ∈ ns)) c))
theorem cr_setI (hc : X.calm = true) : CallR X (.type "set") (rSetI X.kw X.w) := by
  intro pins s σ H vs us Q I r h
  obtain ⟨l, ns, rfl, hl, few, q⟩ := h
  rw [Vals.ref1 r]
  obtain ⟨its, rv, pl, hz⟩ := I.list hl
  refine set_ofL ns (I.ok.hd hc) pl.isList (by simpa using ints_of_vals rv) (by unfold scanBound; omega) fun h2 tk c hS hc2 hk => ?_
  exact ⟨.ref s.heap.objs.size, _, I.laid (t' := tk) hk (Nat.le_refl _) (setO_new hS), rfl, q _ c (I.hok.fresh (Nat.le_refl _)) hc2⟩
end
/-! the rule -/
def ddI : List Int → List Int
  | [] => []
  | n :: ns => if n ∈ ns then ddI ns else n :: ddI ns
theorem ddI_mem {x : Int} : ∀ {ns : List Int}, x ∈ ddI ns ↔ x ∈ ns
  | [] => Iff.rfl
  | n :: ns => by
    rw [ddI]
    split
    · rename_i h
      rw [ddI_mem, List.mem_cons]
      exact ⟨.inr, fun q => q.elim (fun e => e ▸ h) id⟩
    · rw [List.mem_cons, List.mem_cons, ddI_mem]
theorem ddI_nd : ∀ ns : List Int, (ddI ns).Nodup
  | [] => List.nodup_nil
  | n :: ns => by
    rw [ddI]
    split
    · exact ddI_nd ns
    · rename_i h
      exact List.nodup_cons.mpr ⟨fun q => h (ddI_mem.mp q), ddI_nd ns⟩
theorem ltz_uniq : ∀ {l l' : List Int}, l.Pairwise (· < ·) → l'.Pairwise (· < ·) → (∀ t, t ∈ l ↔ t ∈ l') → l = l'
  | [], [], _, _, _ => rfl
  | [], b :: bs, _, _, h => absurd ((h b).mpr (List.mem_cons_self ..)) (by simp)
  | a :: as, [], _, _, h => absurd ((h a).mp (List.mem_cons_self ..)) (by simp)
  | a :: as, b :: bs, h1, h2, h => by
    rw [List.pairwise_cons] at h1 h2
    have e : a = b := by
      have ha := (h a).mp (List.mem_cons_self ..)
      have hb := (h b).mpr (List.mem_cons_self ..)
      rw [List.mem_cons] at ha hb
      rcases ha with ha | ha
      · exact ha
      rcases hb with hb | hb
      · exact hb.symm
      have := h1.1 b hb
      have := h2.1 a ha
      omega
    subst e
    congr 1
    refine ltz_uniq h1.2 h2.2 fun t => ⟨fun ht => ?_, fun ht => ?_⟩
    · have := (h t).mp (List.mem_cons_of_mem _ ht)
      rw [List.mem_cons] at this
      rcases this with z | z
      · subst z
        have := h1.1 _ ht
        omega
      · exact z
    · have := (h t).mpr (List.mem_cons_of_mem _ ht)
      rw [List.mem_cons] at this
      rcases this with z | z
      · subst z
        have := h2.1 _ ht
        omega
      · exact z
def ssetD : List D → Option D
  | [.lst ds] => (intsOf ds).bind fun ns => if ns.length < 60 then some (.lst ((sortI (ddI ns)).map D.int)) else none
  | _ => none
theorem sset_uniq {ns l : List Int} (h1 : l.Pairwise (· < ·)) (h2 : ∀ k, k ∈ l ↔ decide (k ∈ ns) = true) : l = sortI (ddI ns) := by
  refine ltz_uniq h1 ?_ fun t => ?_
  · have a := sortI_sorted (ddI ns)
    have b : (sortI (ddI ns)).Nodup := (sortI_perm _).nodup_iff.mpr (ddI_nd ns)
    exact (a.and b).imp fun {x y} h => by obtain ⟨h, n⟩ := h; omega
  · rw [h2, (sortI_perm _).mem_iff, ddI_mem, decide_eq_true_iff]
section
variable {X : Cx} {bs : Bs} {e : Expr} {os : Oxs} {p p2 q pos : Pos}
theorem f_sset (hg : Gl X "sorted") (hm : X.mg "sorted" = none) (hg2 : Gl X "set") (hm2 : X.mg "set" = none) (he : PA X [e] (tOs X.kw bs os)) (hc : X.calm = true := by rfl)
    (na : starEach [e] X.env = (false, eval e X.env) :: starEach [] X.env := by rfl) :
    PE X (.Call (.Name "sorted" p) [.Call (.Name "set" p2) [e] [] q] [] pos) (tF X.kw bs (eFn ssetD os)) :=
  (pe_callB (cr_sortedSet hc) hg hm (by decide +kernel) (pa_cons (pe_callTy (cr_setI hc) hg2 hm2 (by decide +kernel) he (by decide) (by decide) na (by rfl)) pa_nil (by rfl)) (by decide) (by decide) (by rfl) (by rfl)).wk fun σ H Q ⟨Hf, Γ, d, Γ', st, e, q⟩ => by
    unfold eFn at e
    rw [Option.bind_eq_some_iff] at e
    obtain ⟨⟨o1, Γ1⟩, e1, e⟩ := e
    rw [Option.bind_eq_some_iff] at e
    obtain ⟨dx, e3, e⟩ := e
    rw [Option.map_eq_some_iff] at e
    obtain ⟨d', e5, e⟩ := e
    cases e
    refine ⟨Hf, Γ, o1, Γ1, st, e1, fun vs Hf1 H1 s1 x1 r1 => ?_⟩
    have rx := ovRds s1 r1 e3
    unfold ssetD at e5
    split at e5
    · rw [Option.bind_eq_some_iff] at e5
      obtain ⟨ns, e6, e5⟩ := e5
      split at e5
      · rename_i hl
        cases e5
        obtain ⟨x, rfl, rx1⟩ := rds1 rx
        obtain ⟨a, us, rfl, h1, h2⟩ := rd_lst s1.fz rx1
        rw [intsOf_some e6] at h2
        rw [h2.ints] at h1
        refine ⟨a, ns, rfl, SqL.of h1, hl, fun p c np hc2 => ⟨p, _, c, rfl, upd_same, by omega, fun l p' k1 k2 k3 np' => ?_⟩⟩
        have el := sset_uniq k1 k2
        subst el
        have n0 : ∀ a, H1 a = none → H a = none := fun a z => by
          cases z2 : H a with
          | none => rfl
          | some u => obtain ⟨o', w⟩ := x1.dm a u z2; rw [z] at w; cases w
        have s2 := s1.made (o := SetO X.w p (fun j => decide (j ∈ ns)) c) np
        have x2 := s1.madeX (o := SetO X.w p (fun j => decide (j ∈ ns)) c) np
        have np1 : H1 p' = none := by
          cases z2 : H1 p' with
          | none => rfl
          | some u => obtain ⟨o', w⟩ := x2.dm p' u z2; rw [np'] at w; cases w
        exact q p' _ _ (s2.made np') ((x1.trans x2).trans (s2.madeX np')) (n0 _ np1) (s2.fnone np') ⟨_, upd_same, RepAll.intsV _⟩
      · cases e5
    · cases e5
end
end Zd

set_option maxHeartbeats 4000000
/-! enumerate of a list -/
namespace Zd
open PySem PySem.Spec PyProof.Rows L2 Pd
def enL : Nat → List D → List D
  | _, [] => []
  | i, d :: ds => .tup [.int (i : Nat), d] :: enL (i + 1) ds
theorem enL_len : ∀ {i : Nat} {ds : List D}, (enL i ds).length = ds.length
  | _, [] => rfl
  | _, _ :: _ => congrArg Nat.succ enL_len
theorem enL_get : ∀ {ds : List D} {i k : Nat} {d : D}, (enL k ds)[i]? = some d → ∃ x, d = .tup [.int ((k + i : Nat) : Nat), x] ∧ ds[i]? = some x
  | [], _, _, _, e => by simp [enL] at e
  | x :: ds, 0, k, d, e => by simp [enL] at e; exact ⟨x, e.symm, rfl⟩
  | x :: ds, i + 1, k, d, e => by
    rw [enL, List.getElem?_cons_succ] at e
    obtain ⟨y, h1, h2⟩ := enL_get e
    exact ⟨y, by rw [h1, show k + 1 + i = k + (i + 1) from by omega], by rw [List.getElem?_cons_succ]; exact h2⟩
def lstD : D → Option (List D)
  | .lst ds => some ds
  | _ => none
def iEnm (f : Exs) : Exs := fun Γ => (f Γ).bind fun p => match p.1 with
  | [d1] => (lstD d1).bind fun s1 => (some (enL 0 s1, p.2))
  | _ => none
theorem i_enm {X : Cx} {bs : Bs} {e1 : Expr} {fs : Exs} {p pos tpos : Pos} {elts : List Expr} {kk : Nat} (hg : Gl X "enumerate") (hm : X.mg "enumerate" = none) (ha : PA X [e1] (tVs X.kw bs fs))
    (hs : starEach [e1] X.env = [(false, eval e1 X.env)] := by rfl) :
    PI X (.Tuple elts kk tpos) (.Call (.Name "enumerate" p) [e1] [] pos) (tI X.kw bs (iEnm fs)) := (pi_enum hg hm ha hs).wk fun σ H R ⟨Hf, Γ, ds, Γ', s, e, q⟩ => by
  unfold iEnm at e
  rw [Option.bind_eq_some_iff] at e
  obtain ⟨⟨l, Γ1⟩, e1, e⟩ := e
  split at e
  · rename_i d1 el
    rw [Option.bind_eq_some_iff] at e
    obtain ⟨m1, f1, e⟩ := e
    cases e
    have el : l = [d1] := el
    subst el
    refine ⟨Hf, Γ, _, _, s, e1, fun vs Hf1 H1 s1 x1 r1 => ?_⟩
    cases r1 with
    | cons r1' rn =>
    cases rn
    cases d1 with
    | lst ds1 =>
      cases f1
      cases r1' with
      | lst h hs =>
      refine ⟨_, _, rfl, SqL.of (s1.fz _ _ h), q _ _ _ s1 x1 ?_⟩
      intro σ2 Γ2 Hf2 H2 s2 z2
      have hq1 := SqL.of (K := X.K) (s2.fz _ _ (z2 _ _ h))
      refine ⟨fun i d hd => ?_, ?_⟩
      · obtain ⟨c1, rfl, g1⟩ := enL_get hd
        obtain ⟨y1, hy1, ry1⟩ := hs.getD g1
        refine ⟨⟨_, y1, hq1, hy1⟩, fun x H3 hyl => ?_⟩
        obtain ⟨T, w1, rfl, hT, rfl, k1⟩ := hyl
        obtain rfl : y1 = w1 := Option.some.inj (hy1.symm.trans (k1 _ hq1))
        have z3 := z2.trans (sameNew (o := .tup [.int (i : Nat), y1]) (s2.fnone hT))
        rw [Nat.zero_add]
        exact ⟨_, s2.laid hT, s2.laidX hT, .tup (SqT.of upd_same) (.cons (.int _) (.cons (ry1.mono z3) .nil))⟩
      · exact ⟨_, hq1, by rw [enL_len, hs.len]; exact Nat.le_refl _⟩
    | _ => cases f1
  · cases e
end Zd

set_option maxHeartbeats 4000000
/-! l.index(x), strs -/
namespace Zd
open PySem PySem.Spec PyProof.Rows L2 Pd
def strsOf : List D → Option (List Str)
  | [] => some []
  | .str i :: r => (strsOf r).map fun ns => i :: ns
  | _ => none
theorem strsOf_some : ∀ {ds : List D} {ns : List Str}, strsOf ds = some ns → ds = ns.map D.str
  | [], ns, e => by cases e; rfl
  | d :: r, ns, e => by
    cases d with
    | str i =>
      rw [strsOf, Option.map_eq_some_iff] at e
      obtain ⟨m, e1, rfl⟩ := e
      rw [strsOf_some e1]
      rfl
    | _ => cases e
def toSt : D → Option Str
  | .str x => some x
  | _ => none
theorem toSt_some {d : D} {x : Str} (e : toSt d = some x) : d = .str x := by cases d <;> cases e; rfl
theorem RepAll.strs {K : KW} {H : Hp} : ∀ {xs : List V} {ns : List Str}, RepAll K H xs (ns.map D.str) → xs = ns.map V.str
  | [], [], _ => rfl
  | x :: xs, n :: ns, .cons h t => by
    rw [RepAll.strs t, List.map_cons]
    cases h
    rfl
def idxS (x : Str) : List Str → Option Nat
  | [] => none
  | n :: ns => if n = x then some 0 else (idxS x ns).map (· + 1)
theorem idxS_some {x : Str} : ∀ {ns : List Str} {j : Nat}, idxS x ns = some j → ns[j]? = some x ∧ ∀ m n, m < j → ns[m]? = some n → n ≠ x
  | [], j, e => by cases e
  | n :: ns, j, e => by
    rw [idxS] at e
    split at e
    · rename_i h
      cases e
      exact ⟨by rw [h]; rfl, fun m n hm => absurd hm (Nat.not_lt_zero _)⟩
    · rename_i h
      rw [Option.map_eq_some_iff] at e
      obtain ⟨k, e1, rfl⟩ := e
      obtain ⟨h1, h2⟩ := idxS_some e1
      refine ⟨by simpa using h1, fun m p hm hp => ?_⟩
      cases m with
      | zero => cases hp; exact h
      | succ m => exact h2 m p (by omega) (by simpa using hp)
def eIdxS (f g : Ox) : Ex := fun Γ => (f Γ).bind fun p => (lstOf? p.1 p.2).bind fun _ => (g p.2).bind fun q => (p.1.get q.2).bind fun l => (lstOf l).bind fun ds => (strsOf ds).bind fun ns => (q.1.get q.2).bind fun x => (toSt x).bind fun x => (idxS x ns).map fun j => (.int (j : Nat), q.2)
where lstOf? (o : Ov) (Γ : Gm) : Option (List D) := (o.get Γ).bind lstOf
theorem flS : ∀ ns : List Str, (ns.map V.str).all flatV = true
  | [] => rfl
  | n :: ns => by rw [List.map_cons, List.all_cons, flS ns]; rfl
section
variable {X : Cx} {bs : Bs} {fr : Md} {a b c e o tg it : Expr} {es rest : List Expr} {pos p2 apos cpos : Pos} {f g h : Ex} {fo go ho : Ox} {fs : Exs} {os : Oxs} {x y z : Str} {i j l : Nat} {q : Qx} {is : List Nat}
theorem z_idxS (hu : X.A.units + 64 < cLine) (ho : PE X o (tO X.kw bs fo)) (ha : PE X e (tO X.kw bs go)) (hbase : attributeBase o "index" X.env (eval o X.env) = eval o X.env := by rfl)
    (hfew : ((backTo cpos (starEach [e] X.env)).all (fun x => !x.1) && (backToKw cpos (keywordEach [] X.env)).all (fun x => x.1.isSome)
      && decide ([e].length + ([] : List Keyword).length + (if ([] : List Keyword).isEmpty then 0 else 1) < 30)) = true := by rfl)
    (hline : (apos.endLine == cpos.line) = true := by rfl) (hs : starEach [e] X.env = (false, eval e X.env) :: starEach [] X.env := by rfl) (hplain : (backTo cpos (starEach [] X.env)).any (·.1) = false := by rfl) (hu2 : X.A.units + 65 < cLine) :
    PE X (.Call (.Attribute o "index" apos) [e] [] cpos) (tZ X.kw bs (eIdxS fo go)) := (pe_bm PySem.F.plainAttrs_list PySem.F.slot_list_index PySem.F.type_list_index mt_index ho (pa_cons ha pa_nil hs) hbase hfew hline hs hplain).wk fun σ H Q hq => by
  obtain ⟨Hf, Γ, d, Γ', st, e, q⟩ := hq
  unfold eIdxS at e
  rw [Option.bind_eq_some_iff] at e
  obtain ⟨⟨o1, Γ1⟩, e1, e⟩ := e
  rw [Option.bind_eq_some_iff] at e
  obtain ⟨l0, e2, e⟩ := e
  rw [Option.bind_eq_some_iff] at e
  obtain ⟨⟨o2, Γ2⟩, e3, e⟩ := e
  rw [Option.bind_eq_some_iff] at e
  obtain ⟨dl, e4, e⟩ := e
  rw [Option.bind_eq_some_iff] at e
  obtain ⟨ds, e5, e⟩ := e
  rw [Option.bind_eq_some_iff] at e
  obtain ⟨ns, e6, e⟩ := e
  rw [Option.bind_eq_some_iff] at e
  obtain ⟨dx, e7, e⟩ := e
  rw [Option.bind_eq_some_iff] at e
  obtain ⟨x, e8, e⟩ := e
  rw [Option.map_eq_some_iff] at e
  obtain ⟨j, e9, e⟩ := e
  cases e
  refine ⟨Hf, Γ, o1, Γ1, st, e1, fun v Hf1 H1 s1 x1 r1 => ?_⟩
  unfold eIdxS.lstOf? at e2
  rw [Option.bind_eq_some_iff] at e2
  obtain ⟨d0, e2, e2'⟩ := e2
  have rd0 := ovRd s1 r1 e2
  rw [lstOf_some e2'] at rd0
  obtain ⟨a, xs0, rfl, h1, _⟩ := rd_lst s1.fz rd0
  refine ⟨.inl ⟨rfl, _, SqL.of h1⟩, Hf1, Γ1, o2, Γ2, s1, e3, fun w Hf2 H2 s2 x2 r2 => ?_⟩
  have rd := ovRd s2 (r1.mono x2.f) e4
  rw [lstOf_some e5] at rd
  obtain ⟨a', xs, ea, h2, h3⟩ := rd_lst s2.fz rd
  cases ea
  rw [strsOf_some e6] at h3
  rw [h3.strs] at h2
  have rx := ovRd s2 r2 e7
  rw [toSt_some e8] at rx
  obtain ⟨k1, k2⟩ := idxS_some e9
  rw [rd_str rx]
  refine ⟨a, ns.map V.str, .str x, j, .str x, rfl, rfl, SqL.of h2, rfl, flS ns, by rw [List.getElem?_map, k1]; rfl, by simp [eqV], fun m z' hm hz => ?_, q _ _ _ s2 (x1.trans x2) (.int _)⟩
  rw [List.getElem?_map] at hz
  cases en : ns[m]? with
  | none => rw [en] at hz; cases hz
  | some n =>
    rw [en] at hz
    cases hz
    have := k2 m n hm en
    simp [eqV, this]
end
end Zd

set_option maxHeartbeats 4000000
/-! a, b, .. = a tuple or a list -/
namespace Zd
open PySem PySem.Spec PyProof.Rows L2 Pd
def gU (g : Tgs) : Tg := fun d Γ => match d with
  | .tup ds => g ds Γ
  | .lst ds => g ds Γ
  | _ => none
section
variable {X : Cx} {bs : Bs} {es : List Expr} {pos : Pos} {is : List Nat} {gs : Tgs}
theorem g_un {k : Nat} {n : Nat} (hc : X.calm = true) (h : PGs X es (tGs X.kw bs is gs)) (hw : ∀ ds Γ Γ', gs ds Γ = some Γ' → ds.length = n)
    (hn : (assignEach es X.env).length = n := by rfl) (hst : (assignEach es X.env).findIdx? (·.1) = none := by rfl) : PG X (.Tuple es k pos) (tG X.kw bs is (gU gs)) := by
  refine ⟨fun pins s σ H v u Q I r ⟨Hf, Γ, d, Γ', st, rp, e, q⟩ => ?_⟩
  cases rp with
  | tup h1 h2 =>
    have e : gs _ Γ = some Γ' := e
    exact (pg_tup hc h hn hst).run pins s σ H _ u Q I r ⟨_, _, rfl, sqT_mono st.fz h1, by rw [h2.len]; exact hw _ _ _ e, Hf, Γ, _, Γ', st, h2, e, q⟩
  | lst h1 h2 =>
    have e : gs _ Γ = some Γ' := e
    exact (pg_lst hc h hn hst).run pins s σ H _ u Q I r ⟨_, _, rfl, SqL.of (st.fz _ _ h1), by rw [h2.len]; exact hw _ _ _ e, Hf, Γ, _, Γ', st, h2, e, q⟩
  | _ => cases e
end
end Zd

set_option maxHeartbeats 4000000
/-! A def that returns (a new list, ..): f(..)[0] is new. -/
namespace Zd
open PySem PySem.Spec PyProof.Rows L2 Pd
def PairR (K : KW) (B Hf H : Hp) (v : V) (d : D) : Prop := ∃ t a xs d0 ds, d = .tup (d0 :: ds) ∧ v = .ref t ∧ SqT K.f H t (.ref a :: xs) ∧ B a = none ∧ Hf a = none ∧ Cont K Hf H a d0 ∧ RepAll K Hf xs ds
def tSP (K : KW) (b : Bs) (f : Sx) : TS := fun D σ H => ∃ Hf Γ d Γ', StR K b Hf H σ Γ ∧ f Γ = some (.rt d, Γ') ∧ ∀ v σ' Hf' H', StR K b Hf' H' σ' Γ' → Same Hf Hf' → PairR K b.B Hf' H' v d → D.rt v H'
def sRetP (i : Nat) (fs : Exs) : Sx := fun Γ => match Γ[i]? with
  | some (.own _) => (fs Γ).bind fun p => match p.2[i]? with
    | some (.own d) => some (.rt (.tup (d :: p.1)), p.2)
    | _ => none
  | _ => none
def sSeqP (f g : Sx) : Sx := fun Γ => (f Γ).bind fun p => match p.1 with
  | .nx => g p.2
  | _ => none
def spP (K : KW) (F : List D → Option D) : Sp := fun vs H Q _ => ∃ Hf ds r, Same Hf H ∧ RepAll K Hf vs ds ∧ F ds = some r ∧
  ∀ v Hf' H', Same H H' → Same Hf Hf' → Same Hf' H' → (∀ a o, Hf' a = some o → Hf a = some o ∨ H a = none) → PairR K H Hf' H' v r → Q v H'
section
variable {X : Cx} {K : KW} {bs : Bs} {e : Expr} {es : List Expr} {pos p2 : Pos} {fs : Exs} {i : Nat} {st : Stmt} {sts : List Stmt} {u1 u2 : Sx}
theorem s_retP {x1} (h0 : PE X e (tVar i)) (h : PA X es (tVs K bs fs)) (hn : ∀ Γ ds Γ', fs Γ = some (ds, Γ') → ds.length ≤ 100000) (he : starEach (e :: es) X.env = (false, eval e X.env) :: starEach es X.env := by rfl) : PS X (.Return (some (.Tuple (e :: es) x1 p2)) pos) (tSP K bs (sRetP i fs)) :=
  (ps_ret (pe_tup (pa_cons h0 h he))).wk fun D σ H ⟨Hf, Γ, d, Γ', s, e, q⟩ => by
    unfold sRetP at e
    split at e
    · rename_i d0 eg
      rw [Option.bind_eq_some_iff] at e
      obtain ⟨⟨ds, Γ1⟩, e1, e⟩ := e
      split at e
      · rename_i d1 eg1
        cases e
        obtain ⟨o, h1, h2⟩ := s.slot eg
        cases h2 with
        | own n c hb =>
          rename_i a
          refine ⟨_, h1, Hf, Γ, ds, Γ1, s, e1, fun vs Hf1 H1 s1 x1 r1 => ⟨?_, fun p np => ?_⟩⟩
          · have := hn _ _ _ e1
            rw [List.length_cons, r1.len]
            exact Nat.le_trans (Nat.succ_le_succ this) (by decide)
          · obtain ⟨o', g1, g2⟩ := s1.slot eg1
            rw [h1] at g1
            cases g1
            cases g2 with
            | own n' c' hb' =>
              have hap : a ≠ p := by obtain ⟨o2, w⟩ := c'.is; exact ne_of_none w np
              exact q _ σ Hf1 _ (s1.made np) x1.f ⟨p, a, vs, d1, ds, rfl, rfl, SqT.of upd_same, hb', n', c'.mono (Same.refl _) (upd_ne hap), r1⟩
      · cases e
    · cases e
theorem s_seqP (h1 : PS X st (tS K bs .rest u1)) (h2 : PSs X sts (tSP K bs u2)) : PSs X (st :: sts) (tSP K bs (sSeqP u1 u2)) := (pss_cons h1 h2).wk fun D σ H ⟨Hf, Γ, d, Γ', s, e, q⟩ => by
  unfold sSeqP at e
  rw [Option.bind_eq_some_iff] at e
  obtain ⟨⟨fl1, Γ1⟩, e1, e2⟩ := e
  cases fl1 with
  | nx => exact ⟨Hf, Γ, .nx, Γ1, s, e1, fun σ1 Hf1 H1 s1 z1 => ⟨Hf1, Γ1, d, Γ', s1, e2, fun v σ' Hf' H' s' z' => q v σ' Hf' H' s' (z1.trans z')⟩⟩
  | _ => cases e2
theorem s_oneP (h1 : PS X st (tSP K bs u1)) : PSs X [st] (tSP K bs u1) := (pss_one h1).wk fun _ _ _ q => q
end
section
variable {P : Program} {w : World} {K : PySem.W.Frag} {mg : Str → Option Value} {base : Heap} {x qual : Str} {params : Arguments} {body : List Stmt} {scope : Scope} {dvs : List V} {kws : List (Str × V)} {f : Addr} {fd : FuncData} {N ps : List Str} {k : Nat} {u : Sx}
theorem okP (F : FunD K x qual params body scope dvs kws f fd) (S : FnScope N ps scope)
    (hb : ∀ (cdv : Value) (A : Around) (outer : List Env) (s : Shared) (H : Hp) (E : XK) (bs : Bs), A.guards = some [] → Room k (A.deeper (envOfC qual scope s.heap.objs.size f cdv)) →
      PSs (cxOf CX0 P w K mg base N qual scope f cdv A outer s H E).nox body (tSP ⟨K, w⟩ bs u)) : FnG P w K mg base (k + 1) f fd ps (spP ⟨K, w⟩ (runV ps.length N.length .fresh u)) := by
  refine okGD F S (fun vs H Q E ⟨Hf, ds, r, z, rr, e, _⟩ => by rw [rr.len]; exact (runV_some e).1) fun cdv A outer s H vs Q E hgd hr hsp => ?_
  obtain ⟨Hf, ds, r, z, rr, e, q⟩ := hsp
  obtain ⟨hl, ⟨fl, Γ'⟩, e1, e2⟩ := runV_some e
  cases fl with
  | rt d =>
    have e2 : d = r := Option.some.inj e2
    subst e2
    exact ⟨_, hb cdv A outer s H E ⟨H, Hf, []⟩ hgd hr, Hf, _, _, Γ', startV (N := N) z rr, by rw [hl]; exact e1, fun v σ' Hf' H' s' zz pr => q v Hf' H' (fun a o e => s'.fr a o e (fun i h => by cases h)) zz s'.fz s'.fresh pr⟩
  | _ => cases e2
end
section
variable {X : Cx} {bs : Bs} {k j n i : Nat} {x : Str} {p pos pos2 pos3 : Pos} {e : Expr} {es : List Expr} {fs : Exs} {F : List D → Option D}
def fstD : D → Option D
  | .tup (d :: _) => some d
  | _ => none
def eCallP (F : List D → Option D) (fs : Exs) : Ex := fun Γ => (fs Γ).bind fun p => (F p.1).bind fun d => (fstD d).map fun r => (r, p.2)
theorem f_callP {jj : Nat} (c : CallOk X.prog X.w X.K X.mg X.base k x n [] (spP X.kw F)) (hgd : X.A.guards = some []) (hr : Room j X.A) (hk : k ≤ j) (hg : Gl X x) (ha : PA X (e :: es) (tVs X.kw bs fs)) (hn : ∀ Γ ds Γ', fs Γ = some (ds, Γ') → ds.length = n) (hs : PlainIx (.Constant (.int 0) jj pos2))
    (hdb : (x == ("__debug__" : Str)) = false := by decide) (he : starEach (e :: es) X.env = (false, eval e X.env) :: starEach es X.env := by rfl) (hpl : (backTo pos (starEach es X.env)).any (·.1) = false := by rfl) :
    PE X (.Subscript (.Call (.Name x p) (e :: es) [] pos) (.Constant (.int 0) jj pos2) pos3) (tF X.kw bs (eCallP F fs)) :=
  (pe_ix ix_tup (pe_c1 c hgd hr hk hg ha hdb he hpl) pe_int hs).wk fun σ H Q hq => by
    obtain ⟨Hf, Γ, d, Γ', st, e, q⟩ := hq
    unfold eCallP at e
    rw [Option.bind_eq_some_iff] at e
    obtain ⟨⟨ds, Γ1⟩, e1, e⟩ := e
    rw [Option.bind_eq_some_iff] at e
    obtain ⟨r, e2, e⟩ := e
    rw [Option.map_eq_some_iff] at e
    obtain ⟨d0, e3, e⟩ := e
    cases e
    refine ⟨Hf, Γ, ds, Γ1, st, e1, fun vs Hf1 H1 s1 x1 r1 => ⟨by rw [r1.len]; exact hn _ _ _ e1, rfl, Hf1, ds, r, s1.fz, by rw [List.append_nil]; exact r1, e2, fun v Hf3 H3 h1 h2 h3 h4 pr => ?_⟩⟩
    obtain ⟨s3, x3⟩ := after_call s1 h1 h2 h3 h4
    obtain ⟨t, a, xs, d0', ds', rfl, rfl, hsq, hB, hnf, hc, _⟩ := pr
    cases e3
    exact ⟨t, .ref a :: xs, 0, .ref a, rfl, rfl, hsq, atI_nat (j := 0) rfl, q a Hf3 H3 s3 (x1.trans x3) (none_back x1 hB) hnf hc⟩
end
/-! ### a op b op c op d -/
def tChain3 (r r' r'' : R2) (ta tb tc td : TE) : TE := fun σ H Q => ta σ H fun x H1 => tb σ H1 fun y H2 => r x y H2 fun z H3 => ∃ k, z = .bl k ∧
  (if k = true then tc σ H3 fun w' H4 => r' y w' H4 fun z' H5 => ∃ k', z' = .bl k' ∧ (if k' = true then td σ H5 fun w'' H6 => r'' w' w'' H6 Q else Q (.bl false) H5) else Q (.bl false) H3)
def eChain3 (r r' r'' : D → D → Option D) (fo go ho io : Ox) : Ex := fun Γ => (fo Γ).bind fun p => (go p.2).bind fun q => (p.1.get q.2).bind fun x => (q.1.get q.2).bind fun y => match r x y with
  | some (.bl true) => (ho q.2).bind fun t => (q.1.get t.2).bind fun y' => (t.1.get t.2).bind fun z => (match r' y' z with
    | some (.bl true) => (io t.2).bind fun u => (t.1.get u.2).bind fun z' => (u.1.get u.2).bind fun w => (r'' z' w).map fun d => (d, u.2)
    | some (.bl false) => some (.bl false, t.2)
    | _ => none)
  | some (.bl false) => some (.bl false, q.2)
  | _ => none
section
variable {X : Cx} {K : KW} {bs : Bs} {a b c d : Expr} {pos : Pos} {fo go ho io : Ox} {ta tb tc td : TE}
theorem pe_chain3 {op op' op'' : CmpOp} {r r' r'' : R2} (ho : OpR X (compareOp op) r) (ho' : OpR X (compareOp op') r') (ho'' : OpR X (compareOp op'') r'') (ha : PE X a ta) (hb : PE X b tb) (hc : PE X c tc) (hd : PE X d td)
    (hm : lastMarks [op, op', op''] [b, c, d] = false := by with_unfolding_all rfl) : PE X (.Compare a [op, op', op''] [b, c, d] pos) (tChain3 r r' r'' ta tb tc td) := by
  refine ⟨fun pins s σ H Q I h => ?_⟩
  refine Compare_chain (thn (ha.run pins s σ H _ I h) fun v s1 ⟨x, H1, I1, r1, q1⟩ => chain_link (thn (hb.run pins s1 σ H1 _ I1 q1) fun u s2 ⟨y, H2, I2, r2, q2⟩ =>
    thn (ho pins s2 σ H2 x y v u _ I2 r1 r2 q2) fun d s3 ⟨z, H3, I3, r3, k, e, q3⟩ => ?_)) hm
  subst e
  cases r3
  refine wpAny_truthy_bool ?_
  cases k with
  | false => exact ite_ff ⟨.bl false, H3, I3, rfl, q3⟩
  | true =>
    refine ite_tt (chain_link (thn (hc.run pins s3 σ H3 _ I3 q3) fun w' s4 ⟨z', H4, I4, r4, q4⟩ => thn (ho' pins s4 σ H4 y z' u w' _ I4 r2 r4 q4) fun d' s5 ⟨z5, H5, I5, r5, k', e', q5⟩ => ?_))
    subst e'
    cases r5
    refine wpAny_truthy_bool ?_
    cases k' with
    | false => exact ite_ff ⟨.bl false, H5, I5, rfl, q5⟩
    | true => exact ite_tt (chain_last (thn (hd.run pins s5 σ H5 _ I5 q5) fun w6 s6 ⟨z6, H6, I6, r6, q6⟩ => ho'' pins s6 σ H6 z' z6 w' w6 Q I6 r4 r6 q6))
theorem chain3_of {r r' r'' : D → D → Option D} (σ : L2.St) (H : Hp) (Q : VK) (hq : tZ K bs (eChain3 r r' r'' fo go ho io) σ H Q) : tChain3 (rZ K bs r) (rZ K bs r') (rZ K bs r'') (tO K bs fo) (tO K bs go) (tO K bs ho) (tO K bs io) σ H Q := by
  obtain ⟨Hf, Γ, d, Γ', st, e, q⟩ := hq
  unfold eChain3 at e
  rw [Option.bind_eq_some_iff] at e
  obtain ⟨⟨o1, Γ1⟩, e1, e⟩ := e
  rw [Option.bind_eq_some_iff] at e
  obtain ⟨⟨o2, Γ2⟩, e2, e⟩ := e
  rw [Option.bind_eq_some_iff] at e
  obtain ⟨dx, e3, e⟩ := e
  rw [Option.bind_eq_some_iff] at e
  obtain ⟨dy, e4, e⟩ := e
  refine ⟨Hf, Γ, o1, Γ1, st, e1, fun v Hf1 H1 s1 x1 r1 => ⟨Hf1, Γ1, o2, Γ2, s1, e2, fun u Hf2 H2 s2 x2 r2 => ?_⟩⟩
  split at e
  · rename_i e5
    rw [Option.bind_eq_some_iff] at e
    obtain ⟨⟨o3, Γ3⟩, e6, e⟩ := e
    rw [Option.bind_eq_some_iff] at e
    obtain ⟨dy', e7, e⟩ := e
    rw [Option.bind_eq_some_iff] at e
    obtain ⟨dw, e8, e⟩ := e
    refine ⟨σ, Hf2, Γ2, dx, dy, _, s2, ovRd s2 (r1.mono x2.f) e3, ovRd s2 r2 e4, e5, fun w Hf3 H3 s3 x3 r3 => ?_⟩
    cases r3
    refine ⟨_, rfl, iteT ⟨Hf3, Γ2, o3, Γ3, s3, e6, fun w Hf4 H4 s4 x4 r4 => ?_⟩⟩
    split at e
    · rename_i e9
      rw [Option.bind_eq_some_iff] at e
      obtain ⟨⟨o4, Γ4⟩, f1, e⟩ := e
      rw [Option.bind_eq_some_iff] at e
      obtain ⟨dz', f2, e⟩ := e
      rw [Option.bind_eq_some_iff] at e
      obtain ⟨dw', f3, e⟩ := e
      rw [Option.map_eq_some_iff] at e
      obtain ⟨d', f4, e⟩ := e
      cases e
      refine ⟨σ, Hf4, Γ3, dy', dw, _, s4, ovRd s4 (r2.mono (x3.f.trans x4.f)) e7, ovRd s4 r4 e8, e9, fun w5 Hf5 H5 s5 x5 r5 => ?_⟩
      cases r5
      refine ⟨_, rfl, iteT ⟨Hf5, Γ3, o4, Γ4, s5, f1, fun w6 Hf6 H6 s6 x6 r6 => ?_⟩⟩
      exact ⟨σ, Hf6, Γ4, dz', dw', d, s6, ovRd s6 (r4.mono (x5.f.trans x6.f)) f2, ovRd s6 r6 f3, f4, fun w7 Hf7 H7 s7 x7 r7 => q _ _ _ s7 ((((((x1.trans x2).trans x3).trans x4).trans x5).trans x6).trans x7) r7⟩
    · rename_i e9
      cases e
      refine ⟨σ, Hf4, Γ3, dy', dw, _, s4, ovRd s4 (r2.mono (x3.f.trans x4.f)) e7, ovRd s4 r4 e8, e9, fun w5 Hf5 H5 s5 x5 r5 => ?_⟩
      cases r5
      exact ⟨_, rfl, iteF (q _ _ _ s5 ((((x1.trans x2).trans x3).trans x4).trans x5) (.bl false))⟩
    · cases e
  · rename_i e5
    cases e
    refine ⟨σ, Hf2, Γ2, dx, dy, _, s2, ovRd s2 (r1.mono x2.f) e3, ovRd s2 r2 e4, e5, fun w Hf3 H3 s3 x3 r3 => ?_⟩
    cases r3
    exact ⟨_, rfl, iteF (q _ _ _ s3 ((x1.trans x2).trans x3) (.bl false))⟩
  · cases e
theorem z_chain3 {op op' op'' : CmpOp} {r r' r'' : D → D → Option D} (ho1 : OpR X (compareOp op) (rZ K bs r)) (ho2 : OpR X (compareOp op') (rZ K bs r')) (ho3 : OpR X (compareOp op'') (rZ K bs r'')) (ha : PE X a (tO K bs fo)) (hb : PE X b (tO K bs go)) (hc : PE X c (tO K bs ho)) (hd : PE X d (tO K bs io))
    (hm : lastMarks [op, op', op''] [b, c, d] = false := by with_unfolding_all rfl) : PE X (.Compare a [op, op', op''] [b, c, d] pos) (tZ K bs (eChain3 r r' r'' fo go ho io)) := (pe_chain3 ho1 ho2 ho3 ha hb hc hd hm).wk fun σ H Q h => chain3_of σ H Q h
end
end Zd

set_option maxHeartbeats 4000000
/-! enumerate of a tuple -/
namespace Zd
open PySem PySem.Spec PyProof.Rows L2 Pd
theorem en_new1 {v : Value} {ob : Obj} {Hh : Heap → Prop} (B : Begins v ob Hh) :
    Meets (Builtin.«enumerate.__new__» ⟨[.type "enumerate", v], []⟩) (fun _ R st => Hh st.heap ∧
      R (.ok (.ret (.ref (st.heap.push ob).objs.size))) { st with heap := (st.heap.push ob).push { cls := .type "enumerate", data := .fields #[.none, .bool false, .ref st.heap.objs.size, rawInt 0, .none, .none] } }) :=
  .of_wp fun prog w A R st hh => by
    obtain ⟨hp, g, dd, tk, os⟩ := st; obtain ⟨h1, h2⟩ := hh
    have hsb := sub_enumerate
    have go : ∀ {A' : Around} {E' : Value → Shared → Prop} {Q' : Value → Shared → Prop}, Q' (.ref hp.objs.size) ⟨hp.push ob, g, dd, tk, os⟩ → wpAny (model prog w) A' (pyIter v) Q' E' ⟨hp, g, dd, tk, os⟩ :=
      fun q => B.iter prog w _ _ ⟨hp, g, dd, tk, os⟩ _ h1 q
    wp_walk using go
    refine wpAny_stack_any fun sk => wpAny_pure ?_
    split
    · rename_i cl _ _ _ _ _
      cases (cl == Value.type "enumerate")
      · wp_walk using go
        exact ⟨_, rfl, h2⟩
      · wp_walk using go
        exact ⟨_, rfl, h2⟩
    · wp_walk using go
      exact ⟨_, rfl, h2⟩
section
variable {prog : Program} {w : World} {A : Around} {E : Value → Shared → Prop} {s : Shared}
theorem en_call1 {v : Value} {ob : Obj} {Hh : Heap → Prop} {Q : Value → Shared → Prop} (B : Begins v ob Hh) (h1 : Hh s.heap)
    (h : ∀ h', IsEnum h' (s.heap.objs.size + 1) s.heap.objs.size 0 .none → h'.get? s.heap.objs.size = some ob → h'.objs.size = s.heap.objs.size + 2 → (∀ b u, s.heap.get? b = some u → h'.get? b = some u) → Q (.ref (s.heap.objs.size + 1)) { s with heap := h' }) :
    wpAny (model prog w) A (call (.type "enumerate") [v]) Q E s := by
  refine callType_new F.called_enumerate (by decide) (F.typeCall_enumerate_1 _) (F.newCall_enumerate_1 _) (fun obj => F.args_object_init_2 obj _) F.entry_enumerate_new (en_new1 B) ⟨h1, ?_⟩
  have hz : (s.heap.push ob).objs.size = s.heap.objs.size + 1 := Heap.size_push ..
  show _ ∧ _
  rw [hz]
  have ie : IsEnum ((s.heap.push ob).push { cls := .type "enumerate", data := .fields #[.none, .bool false, .ref s.heap.objs.size, rawInt 0, .none, .none] }) (s.heap.objs.size + 1) s.heap.objs.size 0 .none := by
    have q := Heap.get?_push_size (s.heap.push ob) (o := { cls := .type "enumerate", data := .fields #[.none, .bool false, .ref s.heap.objs.size, rawInt 0, .none, .none] }) rfl
    rw [hz] at q
    exact q
  exact ⟨⟨_, ie, rfl⟩, h _ ie (Heap.get?_push_of_some _ (Heap.get?_push_size _ B.free)) (by rw [Heap.size_push, hz]) fun b u x => Heap.get?_push_of_some _ (Heap.get?_push_of_some _ x)⟩
end
/-- the tuple at a, each item in a new pair -/
def IteT (K : PySem.W.Frag) (a : Addr) : It :=
  ⟨fun i H => ∃ (xs : List V) (x : V), SqT K H a xs ∧ xs[i]? = some x, fun i H v H' => ∃ T x, v = .ref T ∧ H T = none ∧ H' = upd H T (.tup [.int (i : Nat), x]) ∧ ∀ xs, SqT K H a xs → xs[i]? = some x, fun i H => ∃ xs : List V, SqT K H a xs ∧ xs.length ≤ i⟩
theorem drawsEnd {prog : Program} {w : World} {A : Around} {it a : Addr} {i : Nat} {items : Array Value} (hh : A.handled = none) (hx : items[i]? = none) :
    Draws prog w A it [it, a] i (fun _ _ => False) (fun j h => j = i ∧ h.IsTupleIter it a i ∧ h.IsTuple a items) where
  live := fun _ _ st => let ⟨ob, ho, _⟩ := st.2.1; ⟨ob, ho⟩
  frame := fun _ _ _ st hk => ⟨st.1, st.2.1.at fun ob q => hk it (by simp) ob q, st.2.2.at fun ob q => hk a (by simp) ob q⟩
  item := fun j s Q E hj st _ => by have := st.1; omega
  done := fun s Q E st hE => wpAny_nextOf_tuple_end hh st.2.1 st.2.2 hx hE
theorem turn_enT {P : Program} {w : World} {K : PySem.W.Frag} {elts : List Expr} {kk : Nat} {tpos : Pos} (a e it : Addr) :
    Turn P w K (.Tuple elts kk tpos) (IteT K a) [e, it] e (fun i h => (∃ old, IsEnum h e it ((i : Nat) : Int) old) ∧ h.IsTupleIter it a i ∧ e ≠ it ∧ e ≠ a ∧ a ≠ it) where
  mem := by simp
  obj := fun i h st b hb => by
    obtain ⟨⟨od, ie⟩, ⟨ob, ho, hc, hd⟩, _⟩ := st
    have z : b = e ∨ b = it := by simpa using hb
    rcases z with y | y
    · rw [y]; exact ⟨_, ie, fun v q => nomatch q⟩
    · rw [y]; exact ⟨ob, ho, fun v q => by rw [hd] at q; cases q⟩
  keep := fun i h h' st k => let ⟨⟨od, ie⟩, hi, hne⟩ := st; ⟨⟨od, k e (by simp) _ ie⟩, hi.at fun ob q => k it (by simp) ob q, hne⟩
  item := by
    intro X hP hw hK hc i pins s σ H E I hf st hg
    subst hP hw hK
    obtain ⟨⟨od, ie⟩, hti, ne1, ne2, ne3⟩ := st
    obtain ⟨xs, x, hq, hx⟩ := hg
    obtain ⟨its, rv, pt, hz⟩ := I.tuple hq
    obtain ⟨u, hu, ru⟩ := rv.get hx
    have l1 : e < s.heap.objs.size := Heap.lt_size ie
    have l2 : it < s.heap.objs.size := by obtain ⟨_, q, _⟩ := hti; exact Heap.lt_size q
    have hlt : i < its.toArray.size := by have := (List.getElem?_eq_some_iff.mp hu).1; simpa using this
    refine wpAny_pyNext_enum_itemD (Draws.tuple (show X.A.in1.handled = none from I.ok.hd hc) it a ne3 its.toArray) ie ⟨hti, pt⟩ hlt ne1 (by simp [ne1, ne2]) fun y h' tk hy ho hst hT hsz hk => ?_
    have hyu : y = u := by
      have h1 : its.toArray[i]? = some u := by simpa using hu
      exact Option.some.inj (hy.symm.trans h1)
    subst hyu
    refine ⟨_, rfl, wpAny_letOwnedTupleGo_enum (s := { s with heap := h', toks := tk + 1 }) ho fun h'' ie' sb => ?_⟩
    have hT2 : h''.get? s.heap.objs.size = some { cls := .type "tuple", data := .seq #[.int i tk, y] } := (sb.2 _ (Nat.ne_of_gt l1)).trans hT
    have new : ObjOk X.prog X.w (upd H s.heap.objs.size (.tup [.int (i : Nat), x])) h'' s.heap.objs.size (.tup [.int (i : Nat), x]) :=
      ⟨by show 2 ≤ sizeLine; decide, [.int i tk, y], .cons ⟨_, rfl⟩ (.cons ru .nil), ⟨_, hT2, rfl, _, rfl⟩⟩
    have I1 : Inv X pins σ (upd H s.heap.objs.size (.tup [.int (i : Nat), x])) { s with heap := h'', toks := tk + 1 } :=
      I.turnedNew (ch := [e, it]) (fun b ob hb q => (sb.2 b (fun z => hb (by simp [z]))).trans (hk b ob (fun z => hb (by simp [z])) (fun z => hb (by simp [z])) q)) hf (Nat.le_refl _) new
    refine ⟨.ref s.heap.objs.size, _, I1, rfl, ⟨_, x, rfl, I.hok.fresh (Nat.le_refl _), rfl, fun ys hy => by rw [I.tuple_inj hy hq]; exact hx⟩, ⟨⟨y, ?_⟩, hst.1.at fun ob q => (sb.2 it (Ne.symm ne1)).trans q, ne1, ne2, ne3⟩, fun b hb => ?_⟩
    · rw [show ((i + 1 : Nat) : Int) = (i : Int) + 1 by omega]
      exact ie'
    · have hb2 : b < s.heap.objs.size := by
        have z : b = e ∨ b = it := by simpa using hb
        rcases z with y | y <;> rw [y] <;> assumption
      rw [upd_ne (Nat.ne_of_lt hb2)]
      exact (hf b hb).1
  done := by
    intro X hP hw hK hc i pins s σ H E I hf st hg
    subst hP hw hK
    obtain ⟨⟨od, ie⟩, hti, ne1, ne2, ne3⟩ := st
    obtain ⟨xs, hq, hx⟩ := hg
    obtain ⟨its, rv, pt, hz⟩ := I.tuple hq
    obtain ⟨f0, f1, f2, f3, f4, f5⟩ := hf it (by simp)
    have hl := rv.length
    have hno : its.toArray[i]? = none := by simp; omega
    exact wpAny_pyNext_enum_endD (drawsEnd (show X.A.in1.handled = none from I.ok.hd hc) hno) ie ⟨rfl, hti, pt⟩ fun h' eb => ⟨rfl, I.turned (t' := s.toks) (fun b ob hb q => eb b ob hb q) f0 f1 f3 f4 f5⟩
  self := fun A i s Q E st h => let ⟨⟨_, ie⟩, _⟩ := st; wpAny_pyIter_enum ie h
def iEnumT (K : PySem.W.Frag) (ta : TA) : TI := fun σ H R => ta σ H fun vs H1 => ∃ a xs, vs = [.ref a] ∧ SqT K H1 a xs ∧ R (IteT K a) H1
theorem pi_enT {X : Cx} {e : Expr} {ta : TA} {p pos tpos : Pos} {elts : List Expr} {kk : Nat} (hg : Gl X "enumerate") (hm : X.mg "enumerate" = none) (ha : PA X [e] ta) (hs : starEach [e] X.env = [(false, eval e X.env)] := by rfl) :
    PI X (.Tuple elts kk tpos) (.Call (.Name "enumerate" p) [e] [] pos) (iEnumT X.K ta) := by
  refine ⟨fun pins s σ H R I h => ?_⟩
  refine Call_ (ld_blt I hg hm boot_enumerate (PyProof.Rows.callWith_type1 (thn (ha.run pos pins s σ H _ I h) fun us s1 ⟨vs, H1, I1, r1, q1⟩ => ?_) hs rfl))
  obtain ⟨a, xs, ex, hq, q⟩ := q1
  subst ex
  cases r1 with
  | cons r rr =>
    cases rr
    cases r
    obtain ⟨its, rv, pt, hz⟩ := I1.tuple hq
    have la : a < s1.heap.objs.size := by obtain ⟨ob, ho, _⟩ := pt; exact Heap.lt_size ho
    refine en_call1 (begins_tuple a its.toArray) (show s1.heap.IsTuple a its.toArray from pt) fun h' ie hit hsz hk => wpAny_pyIter_enum ie ?_
    have I2 : Inv X pins σ H1 { s1 with heap := h' } := I1.kept (t' := s1.toks) hk
    refine ⟨s1.heap.objs.size + 1, [s1.heap.objs.size + 1, s1.heap.objs.size], _, _, H1, rfl, I2, turn_enT a (s1.heap.objs.size + 1) s1.heap.objs.size, ⟨⟨.none, ie⟩, ⟨_, hit, rfl, rfl⟩, Nat.succ_ne_self _, Nat.ne_of_gt (Nat.lt_succ_of_lt la), Nat.ne_of_lt la⟩, fun b hb => ?_, q⟩
    have z : b = s1.heap.objs.size + 1 ∨ b = s1.heap.objs.size := by simpa using hb
    have hle : s1.heap.objs.size ≤ b := by
      rcases z with y | y
      · subst y; exact Nat.le_succ _
      · subst y; exact Nat.le_refl _
    exact I1.fpOk hle (I1.hok.fresh hle)
/-- enumerate of a tuple or a list, over plain data -/
def tupL : D → Option (List D)
  | .tup ds => some ds
  | _ => none
def iEnmT (f : Exs) : Exs := fun Γ => (f Γ).bind fun p => match p.1 with
  | [d1] => (tupL d1).bind fun s1 => (some (enL 0 s1, p.2))
  | _ => none
theorem i_enmT {X : Cx} {bs : Bs} {e1 : Expr} {fs : Exs} {p pos tpos : Pos} {elts : List Expr} {kk : Nat} (hg : Gl X "enumerate") (hm : X.mg "enumerate" = none) (ha : PA X [e1] (tVs X.kw bs fs))
    (hs : starEach [e1] X.env = [(false, eval e1 X.env)] := by rfl) :
    PI X (.Tuple elts kk tpos) (.Call (.Name "enumerate" p) [e1] [] pos) (tI X.kw bs (iEnmT fs)) := (pi_enT hg hm ha hs).wk fun σ H R ⟨Hf, Γ, ds, Γ', s, e, q⟩ => by
  unfold iEnmT at e
  rw [Option.bind_eq_some_iff] at e
  obtain ⟨⟨l, Γ1⟩, e1, e⟩ := e
  split at e
  · rename_i d1 el
    rw [Option.bind_eq_some_iff] at e
    obtain ⟨m1, f1, e⟩ := e
    cases e
    have el : l = [d1] := el
    subst el
    refine ⟨Hf, Γ, _, _, s, e1, fun vs Hf1 H1 s1 x1 r1 => ?_⟩
    cases r1 with
    | cons r1' rn =>
    cases rn
    cases d1 with
    | tup ds1 =>
      cases f1
      cases r1' with
      | tup h hs =>
      refine ⟨_, _, rfl, sqT_mono s1.fz h, q _ _ _ s1 x1 ?_⟩
      intro σ2 Γ2 Hf2 H2 s2 z2
      have hq1 := sqT_mono s2.fz (sqT_mono z2 h)
      refine ⟨fun i d hd => ?_, ?_⟩
      · obtain ⟨c1, rfl, g1⟩ := enL_get hd
        obtain ⟨y1, hy1, ry1⟩ := hs.getD g1
        refine ⟨⟨_, y1, hq1, hy1⟩, fun x H3 hyl => ?_⟩
        obtain ⟨T, w1, rfl, hT, rfl, k1⟩ := hyl
        obtain rfl : y1 = w1 := Option.some.inj (hy1.symm.trans (k1 _ hq1))
        have z3 := z2.trans (sameNew (o := .tup [.int (i : Nat), y1]) (s2.fnone hT))
        rw [Nat.zero_add]
        exact ⟨_, s2.laid hT, s2.laidX hT, .tup (SqT.of upd_same) (.cons (.int _) (.cons (ry1.mono z3) .nil))⟩
      · exact ⟨_, hq1, by rw [enL_len, hs.len]; exact Nat.le_refl _⟩
    | _ => cases f1
  · cases e
def enS : D → Option (List D)
  | .lst ds => some (enL 0 ds)
  | .tup ds => some (enL 0 ds)
  | _ => none
def iEnmU (f : Exs) : Exs := fun Γ => (f Γ).bind fun p => match p.1 with
  | [d1] => (enS d1).map fun l => (l, p.2)
  | _ => none
theorem i_enmU {X : Cx} {bs : Bs} {e1 : Expr} {fs : Exs} {p pos tpos : Pos} {elts : List Expr} {kk : Nat} (hg : Gl X "enumerate") (hm : X.mg "enumerate" = none) (ha : PA X [e1] (tVs X.kw bs fs))
    (hs : starEach [e1] X.env = [(false, eval e1 X.env)] := by rfl) :
    PI X (.Tuple elts kk tpos) (.Call (.Name "enumerate" p) [e1] [] pos) (tI X.kw bs (iEnmU fs)) := by
  refine ⟨fun pins sh σ H R I ⟨Hf, Γ, ds, Γ', s, e, q⟩ => ?_⟩
  unfold iEnmU at e
  rw [Option.bind_eq_some_iff] at e
  obtain ⟨⟨l, Γ1⟩, e1, e⟩ := e
  split at e
  · rename_i d1 el
    have el : l = [d1] := el
    subst el
    rw [Option.map_eq_some_iff] at e
    obtain ⟨m1, f1, e⟩ := e
    cases e
    cases d1 with
    | lst ds1 =>
      cases f1
      exact (i_enm hg hm ha hs).run pins sh σ H R I ⟨Hf, Γ, _, _, s, by unfold iEnm; rw [e1]; rfl, q⟩
    | tup ds1 =>
      cases f1
      exact (i_enmT hg hm ha hs).run pins sh σ H R I ⟨Hf, Γ, _, _, s, by unfold iEnmT; rw [e1]; rfl, q⟩
    | _ => cases f1
  · cases e
end Zd

set_option maxHeartbeats 4000000
/-! i ** j, i of up to 75 digits, j up to 1000 -/
namespace Zd
open PySem PySem.Spec PyProof.Rows L2 Pd
def CPowB (i j : Int) : Prop := 0 ≤ j ∧ j ≤ 1000 ∧ i.natAbs < 2 ^ 250
def powB : D → D → Option D
  | .int i, .int j => if (0 ≤ j ∧ j ≤ 1000) ∧ -1000000000000000000000000000000000000000000000000000000000000000000000000000 < i ∧ i < 1000000000000000000000000000000000000000000000000000000000000000000000000000 then some (.int (i ^ j.toNat)) else none
  | _, _ => none
section
variable {X : Cx} {bs : Bs}
theorem op_powB : OpR X (binaryOp .Pow) (rI CPowB fun i j => .int (i ^ j.toNat)) := opI fun i j _ _ _ _ _ hc q => pow_int hc.1 (by
  have hb : Builtin.Int.intBits i ≤ 250 := intBits_le hc.2.2
  have h1 : (Builtin.Int.intBits i : Int) * j ≤ 250 * j := Int.mul_le_mul_of_nonneg_right (by omega) hc.1
  have := hc.2.1
  omega) q
theorem oz_powB : OpR X (binaryOp .Pow) (rZ X.kw bs powB) := oz_int op_powB fun dx dy d e => by
  unfold powB at e
  split at e
  · split at e
    · rename_i i j h
      cases e
      refine ⟨_, _, rfl, rfl, ⟨h.1.1, h.1.2, ?_⟩, fun _ => .int _⟩
      have : i.natAbs < 1000000000000000000000000000000000000000000000000000000000000000000000000000 := by omega
      exact Nat.lt_of_lt_of_le this (by decide)
    · cases e
  · cases e
end
end Zd

set_option maxHeartbeats 4000000
/-! is True, is not True (of bools) -/
namespace Zd
open PySem PySem.Spec PyProof.Rows L2 Pd
def isBlD : D → D → Option D
  | .bl a, .bl b => some (.bl (decide (a = b)))
  | _, _ => none
def isnBlD : D → D → Option D
  | .bl a, .bl b => some (.bl (!decide (a = b)))
  | _, _ => none
section
variable {X : Cx} {bs : Bs}
theorem oz_isB : OpR X (compareOp .Is) (rZ X.kw bs isBlD) := opWk op_isBl fun x y H Q h => by
  obtain ⟨σ, Hf, Γ, dx, dy, d, st, rx, ry, e, q⟩ := h
  unfold isBlD at e
  split at e
  · cases e
    exact ⟨_, _, rd_bl rx, rd_bl ry, q.rest st (.bl _)⟩
  · cases e
theorem oz_isnB : OpR X (compareOp .IsNot) (rZ X.kw bs isnBlD) := opWk op_notBl fun x y H Q h => by
  obtain ⟨σ, Hf, Γ, dx, dy, d, st, rx, ry, e, q⟩ := h
  unfold isnBlD at e
  split at e
  · cases e
    exact ⟨_, _, rd_bl rx, rd_bl ry, q.rest st (.bl _)⟩
  · cases e
end
end Zd

set_option maxHeartbeats 4000000
/-! Dicts whose keys are tuples (of ints, texts, None and such tuples). -/
namespace Zd
open PySem PySem.Spec PyProof.Rows L2 Pd
section
variable {X : Cx} {pins : List (Addr × Obj)} {σ : L2.St} {Hf H : Hp} {s : Shared}
mutual
theorem nk_at (I : Inv X pins σ H s) (z : Same Hf H) : ∀ {v : V} {d : D} {nk : NestedKey} {u : Value}, Rep X.kw Hf v d → nkOf d = some nk → RelV v u → NestedIs s.heap nk u
  | _, _, nk, u, .non, e, r => by
    rw [nkOf] at e
    cases e
    cases (show u = Value.none from r)
    exact .none
  | _, _, nk, u, .bl b, e, r => by rw [nkOf] at e; cases e; all_goals (intros; contradiction)
  | _, _, nk, u, .int i, e, r => by
    rw [nkOf] at e
    cases e
    obtain ⟨t, rfl⟩ := (show ∃ t, u = Value.int i t from r)
    exact .int _ _
  | _, _, nk, u, .str x, e, r => by
    rw [nkOf] at e
    cases e
    obtain ⟨t, rfl⟩ := (show ∃ t, u = Value.str x t from r)
    exact .text _ _
  | _, _, nk, u, .ty n, e, r => by rw [nkOf] at e; cases e; all_goals (intros; contradiction)
  | _, _, nk, u, .ob a, e, r => by rw [nkOf] at e; cases e; all_goals (intros; contradiction)
  | _, _, nk, u, .scr h, e, r => by rw [nkOf] at e; cases e; all_goals (intros; contradiction)
  | _, _, nk, u, .tup (a := a) h hs, e, r => by
    rw [nkOf, Option.map_eq_some_iff] at e
    obtain ⟨ks, e1, rfl⟩ := e
    cases (show u = Value.ref a from r)
    obtain ⟨its, rv, ⟨o, h1, h2, n, h3⟩, _⟩ := I.tuple (sqT_mono z h)
    exact .tup h1 h2 h3 (by simpa using nks_at I z hs e1 rv)
  | _, _, nk, u, .lst h hs, e, r => by rw [nkOf] at e; cases e; all_goals (intros; contradiction)
  | _, _, nk, u, .dct h hs, e, r => by rw [nkOf] at e; cases e; all_goals (intros; contradiction)
  | _, _, nk, u, .dcn h hl hs nd, e, r => by rw [nkOf] at e; cases e; all_goals (intros; contradiction)
theorem nks_at (I : Inv X pins σ H s) (z : Same Hf H) : ∀ {vs : List V} {ds : List D} {ks : List NestedKey} {us : List Value}, RepAll X.kw Hf vs ds → nkOfs ds = some ks → Vals vs us → NestedAll s.heap ks us
  | _, _, ks, us, .nil, e, r => by
    rw [nkOfs] at e
    cases e
    cases r
    exact .nil
  | _, _, ks, us, .cons h hs, e, r => by
    rw [nkOfs, Option.bind_eq_some_iff] at e
    obtain ⟨k, e1, e⟩ := e
    rw [Option.map_eq_some_iff] at e
    obtain ⟨ks, e2, rfl⟩ := e
    cases r with
    | cons r rs => exact .cons (nk_at I z h e1 r) (nks_at I z hs e2 rs)
end
end
mutual
def nkD : NestedKey → D
  | .none => .non | .num i => .int i | .text x => .str x | .tup ks => .tup (nkDs ks)
def nkDs : List NestedKey → List D
  | [] => []
  | k :: ks => nkD k :: nkDs ks
end
mutual
theorem nkD_of : ∀ {d : D} {k : NestedKey}, nkOf d = some k → nkD k = d
  | .non, _, e => by rw [nkOf] at e; cases e; rw [nkD]
  | .int i, _, e => by rw [nkOf] at e; cases e; rw [nkD]
  | .str i, _, e => by rw [nkOf] at e; cases e; rw [nkD]
  | .tup ds, _, e => by
    rw [nkOf, Option.map_eq_some_iff] at e
    obtain ⟨ks, e1, rfl⟩ := e
    rw [nkD, nkDs_of e1]
  | .bl _, _, e => by rw [nkOf] at e; cases e; all_goals (intros; contradiction)
  | .ty _, _, e => by rw [nkOf] at e; cases e; all_goals (intros; contradiction)
  | .ob _, _, e => by rw [nkOf] at e; cases e; all_goals (intros; contradiction)
  | .scr _, _, e => by rw [nkOf] at e; cases e; all_goals (intros; contradiction)
  | .lst _, _, e => by rw [nkOf] at e; cases e; all_goals (intros; contradiction)
  | .dct _, _, e => by rw [nkOf] at e; cases e; all_goals (intros; contradiction)
  | .dcn _, _, e => by rw [nkOf] at e; cases e; all_goals (intros; contradiction)
theorem nkDs_of : ∀ {ds : List D} {ks : List NestedKey}, nkOfs ds = some ks → nkDs ks = ds
  | [], _, e => by rw [nkOfs] at e; cases e; rw [nkDs]
  | d :: ds, _, e => by
    rw [nkOfs, Option.bind_eq_some_iff] at e
    obtain ⟨k, e1, e⟩ := e
    rw [Option.map_eq_some_iff] at e
    obtain ⟨ks, e2, rfl⟩ := e
    rw [nkDs, nkD_of e1, nkDs_of e2]
end
theorem nkOf_inj {d e : D} {k : NestedKey} (h1 : nkOf d = some k) (h2 : nkOf e = some k) : d = e := (nkD_of h1).symm.trans (nkD_of h2)
abbrev Ent := NestedKey × Addr × Value
abbrev ent (w : World) (x : Ent) : DictEntry := ⟨x.1.hash w, .ref x.2.1, x.2.2⟩
inductive KX (K : KW) (H : Hp) : List Ent → List (D × D) → Prop
  | nil : KX K H [] []
  | cons {b : Addr} {nk : NestedKey} {v : V} {u : Value} {kd vd : D} {xs : List Ent} {kvs : List (D × D)} (h1 : Rep K H (.ref b) kd) (h2 : nkOf kd = some nk) (h3 : nk.depth ≤ 8) (rv : RelV v u) (h4 : Rep K H v vd) (hs : KX K H xs kvs) : KX K H ((nk, b, u) :: xs) ((kd, vd) :: kvs)
def keyN : D → Option NestedKey
  | .tup ds => (nkOf (.tup ds)).bind fun k => if k.depth ≤ 8 then some k else none
  | _ => none
def valN (kvs : List (D × D)) (k : NestedKey) : Option D := (kvs.find? fun kv => decide (nkOf kv.1 = some k)).map (·.2)
def hasN (kvs : List (D × D)) (k : NestedKey) : Bool := kvs.any fun kv => decide (nkOf kv.1 = some k)
def putN (kvs : List (D × D)) (kd : D) (k : NestedKey) (v : D) : List (D × D) :=
  if hasN kvs k = true then kvs.map (fun kv => if nkOf kv.1 = some k then (kv.1, v) else kv) else kvs ++ [(kd, v)]
def dcnOf : D → Option (List (D × D))
  | .dcn kvs => some kvs
  | _ => none
section
variable {K : KW} {Hf H H' : Hp} {v : V} {u : Value} {d kd : D} {k : NestedKey} {b : Addr} {xs : List Ent} {kvs : List (D × D)} {es : List DictEntry}
theorem dcnOf_some (e : dcnOf d = some kvs) : d = .dcn kvs := by
  cases d with
  | dcn l => exact congrArg D.dcn (Option.some.inj e)
  | _ => cases e
theorem keyN_some (e : keyN d = some k) : nkOf d = some k ∧ k.depth ≤ 8 ∧ ∃ ds, d = .tup ds := by
  cases d with
  | tup ds =>
    rw [keyN, Option.bind_eq_some_iff] at e
    obtain ⟨k', e1, e⟩ := e
    split at e
    · cases e
      exact ⟨e1, by assumption, _, rfl⟩
    · cases e
  | _ => cases e
theorem repKD_kx : ∀ {es : List DictEntry} {kvs : List (D × D)}, RepKD K H es kvs → ∃ xs, es = xs.map (ent K.w) ∧ KX K H xs kvs
  | _, _, .nil => ⟨[], rfl, .nil⟩
  | _, _, .cons h1 h2 h3 rv h4 hs => by
    obtain ⟨xs, e, r⟩ := repKD_kx hs
    exact ⟨(_, _, _) :: xs, by rw [e]; rfl, .cons h1 h2 h3 rv h4 r⟩
theorem kx_repKD : ∀ {xs : List Ent} {kvs : List (D × D)}, KX K H xs kvs → RepKD K H (xs.map (ent K.w)) kvs
  | _, _, .nil => .nil
  | _, _, .cons h1 h2 h3 rv h4 hs => .cons h1 h2 h3 rv h4 (kx_repKD hs)
theorem KX.mono (l : Same H H') : ∀ {xs : List Ent} {kvs : List (D × D)}, KX K H xs kvs → KX K H' xs kvs
  | _, _, .nil => .nil
  | _, _, .cons h1 h2 h3 rv h4 hs => .cons (h1.mono l) h2 h3 rv (h4.mono l) (KX.mono l hs)
theorem KX.keys : ∀ {xs : List Ent} {kvs : List (D × D)}, KX K H xs kvs → kvs.map (fun p => nkOf p.1) = xs.map fun x => some x.1
  | _, _, .nil => rfl
  | _, _, .cons h1 h2 h3 rv h4 hs => by rw [List.map_cons, List.map_cons, KX.keys hs, h2]
theorem KX.len : ∀ {xs : List Ent} {kvs : List (D × D)}, KX K H xs kvs → kvs.length = xs.length
  | _, _, .nil => rfl
  | _, _, .cons h1 h2 h3 rv h4 hs => congrArg Nat.succ (KX.len hs)
theorem nodup_some {l : List NestedKey} : (l.map some).Nodup ↔ l.Nodup := by
  induction l with
  | nil => simp
  | cons a l ih =>
    rw [List.map_cons, List.nodup_cons, List.nodup_cons, ih]
    simp
theorem KX.nodup (r : KX K H xs kvs) : (kvs.map fun p => nkOf p.1).Nodup ↔ (xs.map (·.1)).Nodup := by
  rw [r.keys, show (xs.map fun x => some x.1) = (xs.map (·.1)).map some by rw [List.map_map]; rfl, nodup_some]
theorem KX.val : ∀ {xs : List Ent} {kvs : List (D × D)}, KX K H xs kvs → ∀ k, (valN kvs k = none → atKey xs k = none) ∧ ∀ d, valN kvs k = some d → ∃ b u v, atKey xs k = some (b, u) ∧ RelV v u ∧ Rep K H v d
  | _, _, .nil, k => ⟨fun _ => rfl, fun d e => by cases e⟩
  | _, _, .cons (nk := nk) (b := b) (u := u) (v := v) (vd := vd) (xs := xs) (kvs := kvs) (kd := kd) h1 h2 h3 rv h4 hs, k => by
    obtain ⟨i1, i2⟩ := KX.val hs k
    by_cases hk : nk = k
    · have e1 : valN ((kd, vd) :: kvs) k = some vd := by unfold valN; rw [List.find?_cons_of_pos (by simpa [h2] using hk)]; rfl
      have e2 : atKey ((nk, b, u) :: xs) k = some (b, u) := by unfold atKey; rw [List.find?_cons_of_pos (by simpa using hk)]; rfl
      rw [e1, e2]
      exact ⟨fun e => (by cases e), fun d e => by cases e; exact ⟨_, _, _, rfl, rv, h4⟩⟩
    · have e1 : valN ((kd, vd) :: kvs) k = valN kvs k := by unfold valN; rw [List.find?_cons_of_neg (by simpa [h2] using hk)]
      have e2 : atKey ((nk, b, u) :: xs) k = atKey xs k := by unfold atKey; rw [List.find?_cons_of_neg (by simpa using hk)]
      rw [e1, e2]
      exact ⟨i1, i2⟩
theorem KX.isSome (r : KX K H xs kvs) (k : NestedKey) : (atKey xs k).isSome = (valN kvs k).isSome := by
  obtain ⟨h1, h2⟩ := r.val k
  cases e : valN kvs k with
  | none => rw [h1 e]; rfl
  | some d => obtain ⟨b, u, v, e2, _⟩ := h2 d e; rw [e2]; rfl
theorem hasN_eq (kvs : List (D × D)) (k : NestedKey) : hasN kvs k = (valN kvs k).isSome := by
  unfold hasN valN
  rw [Option.isSome_map, Bool.eq_iff_iff, List.find?_isSome, List.any_eq_true]
theorem KX.map (rv : RelV v u) (h4 : Rep K H v d) : ∀ {xs : List Ent} {kvs : List (D × D)}, KX K H xs kvs → KX K H (xs.map (putAt k u)) (kvs.map fun kv => if nkOf kv.1 = some k then (kv.1, d) else kv)
  | _, _, .nil => .nil
  | _, _, .cons (nk := nk) h1 h2 h3 rv' h4' hs => by
    rw [List.map_cons, List.map_cons]
    unfold putAt
    by_cases hk : nk = k
    · rw [if_pos hk, if_pos (by rw [h2, hk])]; exact .cons h1 h2 h3 rv h4 (KX.map rv h4 hs)
    · rw [if_neg hk, if_neg (by rw [h2]; exact fun q => hk (Option.some.inj q))]; exact .cons h1 h2 h3 rv' h4' (KX.map rv h4 hs)
theorem KX.snoc (h1 : Rep K H (.ref b) kd) (h2 : nkOf kd = some k) (h3 : k.depth ≤ 8) (rv : RelV v u) (h4 : Rep K H v d) : ∀ {xs : List Ent} {kvs : List (D × D)}, KX K H xs kvs → KX K H (xs ++ [(k, b, u)]) (kvs ++ [(kd, d)])
  | _, _, .nil => .cons h1 h2 h3 rv h4 .nil
  | _, _, .cons a1 a2 a3 rv' a4 hs => .cons a1 a2 a3 rv' a4 (KX.snoc h1 h2 h3 rv h4 hs)
theorem KX.put (r : KX K H xs kvs) (h1 : Rep K H (.ref b) kd) (h2 : nkOf kd = some k) (h3 : k.depth ≤ 8) (rv : RelV v u) (h4 : Rep K H v d) : KX K H (storedH xs k b u) (putN kvs kd k d) := by
  unfold storedH putN
  rw [hasN_eq, r.isSome]
  split
  · exact r.map rv h4
  · exact r.snoc h1 h2 h3 rv h4
theorem storedH_nodup (xs : List Ent) (k : NestedKey) (b : Addr) (u : Value) (h : (xs.map (·.1)).Nodup) : ((storedH xs k b u).map (·.1)).Nodup := by
  unfold storedH
  split
  · have : (xs.map (putAt k u)).map (·.1) = xs.map (·.1) := by
      rw [List.map_map]
      apply List.map_congr_left
      intro x _
      show (putAt k u x).1 = x.1
      unfold putAt
      split <;> rfl
    rw [this]; exact h
  · rename_i hn
    rw [List.map_append, List.map_singleton, List.nodup_append]
    refine ⟨h, by simp, fun a ha c hc => ?_⟩
    cases List.mem_singleton.mp hc
    rintro rfl
    apply hn
    obtain ⟨x, hx, rfl⟩ := List.mem_map.mp ha
    unfold atKey
    rw [Option.isSome_map, List.find?_isSome]
    exact ⟨x, hx, by simp⟩
theorem storedH_len (xs : List Ent) (k : NestedKey) (b : Addr) (u : Value) : (storedH xs k b u).length ≤ xs.length + 1 := by
  unfold storedH
  split
  · rw [List.length_map]; omega
  · rw [List.length_append, List.length_singleton]; exact Nat.le_refl _
theorem rd_dN (z : Same Hf H) (h : RdH K Hf H v (.dcn kvs)) : ∃ a xs ep, v = .ref a ∧ H a = some (rawO a (xs.map (ent K.w)) ep) ∧ xs.length ≤ 10000000 ∧ KX K Hf xs kvs ∧ (xs.map (·.1)).Nodup := by
  rcases h with h | ⟨a, rfl, c⟩
  · cases h with
    | dcn h1 hl h2 nd =>
      obtain ⟨xs, rfl, r'⟩ := repKD_kx h2
      exact ⟨_, xs, _, rfl, z _ _ h1, by rwa [List.length_map] at hl, r', r'.nodup.mp nd⟩
  · obtain ⟨es, ep, e, hl, r, nd⟩ := c
    obtain ⟨xs, rfl, r'⟩ := repKD_kx r
    exact ⟨a, xs, ep, rfl, e, by rwa [List.length_map] at hl, r', r'.nodup.mp nd⟩
end
/-! ### in the heap -/
section
variable {X : Cx} {pins : List (Addr × Obj)} {σ : L2.St} {Hf H : Hp} {s : Shared} {a b : Addr} {xs : List Ent} {kvs : List (D × D)} {ep : Nat} {y v : V} {u r : Value} {A : Around} {E : Value → Shared → Prop} {o : Option V}
theorem kx_is (I : Inv X pins σ H s) (z : Same Hf H) : ∀ {xs : List Ent} {kvs : List (D × D)}, KX X.kw Hf xs kvs → ∀ x ∈ xs, (nestedKind X.prog X.w).is s.heap x.1 x.2.1
  | _, _, .nil, x, hx => by cases hx
  | _, _, .cons h1 h2 h3 rv h4 hs, x, hx => by
    rcases List.mem_cons.mp hx with rfl | hx
    · exact ⟨nk_at I z h1 h2 rfl, h3⟩
    · exact kx_is I z hs x hx
theorem raw_at (I : Inv X pins σ H s) {es : List DictEntry} (e : H a = some (rawO a es ep)) : (a == sysModules) = false ∧ s.heap.DictRaw a es.toArray ep := (show ObjOk X.prog X.w H s.heap a (rawO a es ep) from I.hok a _ e).1
theorem dn_at (I : Inv X pins σ H s) (z : Same Hf H) (e : H a = some (rawO a (xs.map (ent X.w)) ep)) (r : KX X.kw Hf xs kvs) (nd : (xs.map (·.1)).Nodup) : (a == sysModules) = false ∧ s.heap.DictOfH (nestedKind X.prog X.w) a xs := by
  obtain ⟨h1, o, h2, h3, h4⟩ := raw_at I e
  exact ⟨h1, o, _, _, h2, h3, h4, rfl, kx_is I z r, nd⟩
/-- a dict whose keys are tuples; the empty one may still be of any kind -/
def RawAt (w : World) (H : Hp) (a : Addr) (xs : List Ent) : Prop := (∃ ep, H a = some (rawO a (xs.map (ent w)) ep)) ∨ (xs = [] ∧ H a = some (.dK []))
theorem RawAt.mut {w : World} (r : RawAt w H a xs) : Mut (H a) := by
  rcases r with ⟨ep, e⟩ | ⟨_, e⟩ <;> rw [e] <;> exact True.intro
theorem rawAt (I : Inv X pins σ H s) (z : Same Hf H) (e : RawAt X.w H a xs) (r : KX X.kw Hf xs kvs) (nd : (xs.map (·.1)).Nodup) : (a == sysModules) = false ∧ s.heap.DictOfH (nestedKind X.prog X.w) a xs := by
  rcases e with ⟨ep, e⟩ | ⟨rfl, e⟩
  · exact dn_at I z e r nd
  · obtain ⟨_, h1, vs, rel, o, es, ep, h2, h3, h4, _, h5, _⟩ := dk_of I.hok e
    cases rel
    refine ⟨h1, o, es, ep, h2, h3, h4, ?_, (fun x hx => nomatch hx), List.nodup_nil⟩
    cases hh : es.toList with
    | nil => rfl
    | cons a l => rw [hh] at h5; exact absurd h5 (by intro h; cases h)
theorem rawO_ok {P : Program} {w : World} {h' : Heap} {es : List DictEntry} (h1 : (a == sysModules) = false) (h2 : h'.DictRaw a es.toArray ep) : ObjOk P w H h' a (rawO a es ep) := by
  obtain ⟨o, ho, r⟩ := h2
  exact ⟨⟨h1, o, ho, r⟩, ⟨o, ho⟩, fun g1 g2 ⟨q1, o', q2, q3⟩ k => ⟨q1, o', k _ q2, q3⟩⟩
/-- what a dict holds at a key -/
def DGetN (K : KW) (H : Hp) (a : Addr) (y : V) (o : Option V) : Prop := ∃ Hf xs kvs b k kd, Same Hf H ∧ RawAt K.w H a xs ∧ KX K Hf xs kvs ∧ (xs.map (·.1)).Nodup ∧ y = .ref b ∧ Rep K Hf (.ref b) kd ∧ nkOf kd = some k ∧ k.depth ≤ 8 ∧ RelO o ((atKey xs k).map (·.2))
theorem nroom (hu : A.units + 9 < cLine) : (nestedKind X.prog X.w).room A.in1 := by
  show A.units + 1 + 8 < cLine
  omega
theorem n_getItem {Q : Value → Shared → Prop} (hu : A.units + 9 < cLine) (I : Inv X pins σ H s) (g : DGetN X.kw H a y (some v)) (ry : RelV y u) (h : ∀ w' s', Inv X pins σ H s' → RelV v w' → Q w' s') :
    wpAny (model X.prog X.w) A (getItem (.ref a) u) Q E s := by
  obtain ⟨Hf, xs, kvs, b, k, kd, z, e, r, nd, rfl, hk, hn, hd, ro⟩ := g
  cases (show u = Value.ref b from ry)
  obtain ⟨_, dd⟩ := rawAt I z e r nd
  obtain ⟨w', hw, rw'⟩ := RelO.some_of ro
  obtain ⟨p, hp, hp2⟩ := Option.map_eq_some_iff.mp hw
  refine wpAny_getItem_heap (nroom hu) ⟨nk_at I z hk hn rfl, hd⟩ dd hp ?_
  rw [hp2]
  exact h w' _ (I.tok _) rw'
theorem n_in {Q : Value → Shared → Prop} (hu : A.units + 9 < cLine) (I : Inv X pins σ H s) (g : DGetN X.kw H a y o) (ry : RelV y u) (h : ∀ s', Inv X pins σ H s' → Q (.bool o.isSome) s') :
    wpAny (model X.prog X.w) A (compareOp .In u (.ref a)) Q E s := by
  obtain ⟨Hf, xs, kvs, b, k, kd, z, e, r, nd, rfl, hk, hn, hd, ro⟩ := g
  cases (show u = Value.ref b from ry)
  obtain ⟨h1, dd⟩ := rawAt I z e r nd
  refine wpAny_in_heap (nroom hu) ⟨nk_at I z hk hn rfl, hd⟩ h1 dd ?_
  have q := ro.isSome_eq
  rw [Option.isSome_map] at q
  rw [← q]
  exact h _ (I.tok _)
theorem n_notIn {Q : Value → Shared → Prop} (hu : A.units + 9 < cLine) (I : Inv X pins σ H s) (g : DGetN X.kw H a y o) (ry : RelV y u) (h : ∀ s', Inv X pins σ H s' → Q (.bool (!o.isSome)) s') :
    wpAny (model X.prog X.w) A (compareOp .NotIn u (.ref a)) Q E s := by
  obtain ⟨Hf, xs, kvs, b, k, kd, z, e, r, nd, rfl, hk, hn, hd, ro⟩ := g
  cases (show u = Value.ref b from ry)
  obtain ⟨h1, dd⟩ := rawAt I z e r nd
  refine wpAny_notIn_heap (nroom hu) ⟨nk_at I z hk hn rfl, hd⟩ h1 dd ?_
  have q := ro.isSome_eq
  rw [Option.isSome_map] at q
  rw [← q]
  exact h _ (I.tok _)
theorem n_setItem {Q : Unit → Shared → Prop} {k : NestedKey} {kd : D} (hu : A.units + 9 < cLine) (I : Inv X pins σ H s) (z : Same Hf H) (e : RawAt X.w H a xs) (r : KX X.kw Hf xs kvs) (nd : (xs.map (·.1)).Nodup) (hl : xs.length < 10000000)
    (hk : Rep X.kw Hf (.ref b) kd) (hn : nkOf kd = some k) (hd : k.depth ≤ 8) {w' : Value} (h : ∀ ep' s', Inv X pins σ (upd H a (rawO a ((storedH xs k b w').map (ent X.w)) ep')) s' → Q () s') :
    wpAny (model X.prog X.w) A (setItem (.ref a) (.ref b) w') Q E s := by
  obtain ⟨h1, dd⟩ := rawAt I z e r nd
  refine wpAny_setItem_heap (hsz := by rw [sizeLine_eq]; omega) (nroom hu) ⟨nk_at I z hk hn rfl, hd⟩ dd fun h' dd' hs => ?_
  obtain ⟨q, es, ep', hq, h2, h3, h4, _, h5⟩ := dd'
  refine h ep' _ (d_write I e.mut hs ⟨q, hq⟩ (rawO_ok h1 ⟨q, hq, h2, ?_⟩))
  rw [h3]
  congr 1
  apply Array.ext'
  rw [h4]
  rfl
end
end Zd

set_option maxHeartbeats 4000000
/-! Dicts of both kinds: d[k], k in d, d.get(k), d.get(k, x), d[k] = v. -/
namespace Zd
open PySem PySem.Spec PyProof.Rows L2 Pd
def ncOf : D → Option (List (D × D))
  | .dcn kvs => some kvs
  | .dct [] => some []
  | _ => none
def dgetN (x y : D) : Option D := (ncOf x).bind fun kvs => (keyN y).bind fun k => valN kvs k
def dinN (y x : D) : Option D := (ncOf x).bind fun kvs => (keyN y).map fun k => .bl (valN kvs k).isSome
def dniN (y x : D) : Option D := (ncOf x).bind fun kvs => (keyN y).map fun k => .bl (!(valN kvs k).isSome)
def isKy (d : D) : Bool := (keyD d).isSome
/-- by the key's kind -/
def dgetU (x y : D) : Option D := if isKy y = true then dgetD x y else dgetN x y
def dinU (y x : D) : Option D := if isKy y = true then dinD y x else dinN y x
def dniU (y x : D) : Option D := if isKy y = true then dniD y x else dniN y x
def get1D (x y : D) : Option D := (dctOf x).bind fun kvs => (keyD y).map fun k => (valD kvs k).getD .non
def get1N (x y : D) : Option D := (ncOf x).bind fun kvs => (keyN y).map fun k => (valN kvs k).getD .non
def get1U (x y : D) : Option D := if isKy y = true then get1D x y else get1N x y
theorem un9 {k : Nat} {A : Around} (r : Room k A) : A.units + 9 < cLine := by have := r.un; omega
section
variable {K : KW} {Hf H : Hp} {v y : V} {d kd : D} {kvs : List (D × D)} {k : NestedKey} {w : World}
theorem rd_nc (z : Same Hf H) (h : RdH K Hf H v d) (e : ncOf d = some kvs) : ∃ a xs, v = .ref a ∧ RawAt K.w H a xs ∧ xs.length ≤ 10000000 ∧ KX K Hf xs kvs ∧ (xs.map (·.1)).Nodup := by
  cases d with
  | dcn l =>
    cases e
    obtain ⟨a, xs, ep, h1, h2, h3, h4, h5⟩ := rd_dN z h
    exact ⟨a, xs, h1, .inl ⟨ep, h2⟩, h3, h4, h5⟩
  | dct l =>
    cases l with
    | nil =>
      cases e
      obtain ⟨a, ks, h1, h2, h3⟩ := rd_dK z h
      cases h3
      exact ⟨a, [], h1, .inr ⟨rfl, h2⟩, Nat.zero_le _, .nil, List.nodup_nil⟩
    | cons a l => cases e
  | _ => cases e
theorem rd_key (h : RdH K Hf H y kd) (e : keyN kd = some k) : ∃ b, y = .ref b ∧ Rep K Hf (.ref b) kd ∧ nkOf kd = some k ∧ k.depth ≤ 8 := by
  obtain ⟨h1, h2, ds, rfl⟩ := keyN_some e
  rcases h with h | ⟨a, _, c⟩
  · cases h with
    | tup q qs => exact ⟨_, rfl, .tup q qs, h1, h2⟩
  · exact c.elim
theorem get_nc (z : Same Hf H) (hx : RdH K Hf H v d) (hy : RdH K Hf H y kd) (e1 : ncOf d = some kvs) (e2 : keyN kd = some k) : ∃ a o, v = .ref a ∧ DGetN K H a y o ∧ (o.isSome = (valN kvs k).isSome) ∧ (valN kvs k = none → o = none) ∧ ∀ d', valN kvs k = some d' → ∃ w, o = some w ∧ Rep K Hf w d' := by
  obtain ⟨a, xs, rfl, ra, hl, r, nd⟩ := rd_nc z hx e1
  obtain ⟨b, rfl, hb, hn, hd⟩ := rd_key hy e2
  obtain ⟨h1, h2⟩ := r.val k
  cases q : valN kvs k with
  | none => exact ⟨a, none, rfl, ⟨Hf, xs, kvs, b, k, kd, z, ra, r, nd, rfl, hb, hn, hd, by rw [h1 q]; exact True.intro⟩, rfl, fun _ => rfl, fun d' e => by cases e⟩
  | some d' =>
    obtain ⟨b', u, w', a1, a2, a3⟩ := h2 d' q
    exact ⟨a, some w', rfl, ⟨Hf, xs, kvs, b, k, kd, z, ra, r, nd, rfl, hb, hn, hd, by rw [a1]; exact a2⟩, rfl, fun e => (by cases e), fun d'' e => by cases e; exact ⟨w', rfl, a3⟩⟩
end
/-! ### the rules over the heap -/
def tNGet (K : KW) (td ty : TE) : TE := fun σ H Q => td σ H fun x H1 => ty σ H1 fun y H2 => ∃ a v, x = .ref a ∧ DGetN K H2 a y (some v) ∧ Q v H2
def tNIn (K : KW) (ty td : TE) : TE := fun σ H Q => ty σ H fun y H1 => td σ H1 fun x H2 => ∃ a o, x = .ref a ∧ DGetN K H2 a y o ∧ Q (.bl o.isSome) H2
def tNNotIn (K : KW) (ty td : TE) : TE := fun σ H Q => ty σ H fun y H1 => td σ H1 fun x H2 => ∃ a o, x = .ref a ∧ DGetN K H2 a y o ∧ Q (.bl (!o.isSome)) H2
def sNPut (K : KW) (td ty tv : TE) : TS := fun D σ H => tv σ H fun v H1 => td σ H1 fun x H2 => ty σ H2 fun y H3 => ∃ a Hf xs kvs b k kd, x = .ref a ∧ y = .ref b ∧ Same Hf H3 ∧ RawAt K.w H3 a xs ∧ KX K Hf xs kvs ∧ (xs.map (·.1)).Nodup ∧ xs.length < 10000000 ∧
  Rep K Hf (.ref b) kd ∧ nkOf kd = some k ∧ k.depth ≤ 8 ∧ ∀ u ep, RelV v u → D.nx σ (upd H3 a (rawO a ((storedH xs k b u).map (ent K.w)) ep))
section
variable {X : Cx} {o i e value : Expr} {pos pos' : Pos} {td ty tv : TE}
theorem dgetN_type {pins : List (Addr × Obj)} {σ : L2.St} {H : Hp} {s : Shared} {a : Addr} {y : V} {o : Option V} (I : Inv X pins σ H s) (g : DGetN X.kw H a y o) : s.TypeIs (.ref a) "dict" := by
  obtain ⟨Hf, xs, kvs, b, k, kd, z, e, r, nd, rfl, hk, hn, hd, ro⟩ := g
  exact (rawAt I z e r nd).2.typeIs
theorem pe_nget (hu : X.A.units + 9 < cLine) (ho : PE X o td) (hi : PE X i ty) (hs : NoSl i) : PE X (.Subscript o i pos) (tNGet X.kw td ty) := by
  refine ⟨fun pins s σ H Q I h => ?_⟩
  refine subD_of PySem.F.slot_dict_getitem.lookup hs (thn (ho.run pins s σ H _ I h) fun u s1 ⟨x, H1, I1, rx, q1⟩ => thn (hi.run pins s1 σ H1 _ I1 q1) fun iv s2 ⟨y, H2, I2, ry, a, v, ex, g, q2⟩ => ?_)
  subst ex
  obtain rfl : u = Value.ref a := rx
  exact ⟨dgetN_type I2 g, n_getItem hu I2 g ry fun w' s3 I3 rw' => ⟨v, H2, I3, rw', q2⟩⟩
theorem pc_nin (hu : X.A.units + 9 < cLine) (hi : PE X i ty) (ho : PE X o td) : PC X .In i o (tNIn X.kw ty td) := by
  refine ⟨fun pins s σ H Q I h => ?_⟩
  refine thn (hi.run pins s σ H _ I h) fun iv s1 ⟨y, H1, I1, ry, q1⟩ => thn (ho.run pins s1 σ H1 _ I1 q1) fun u s2 ⟨x, H2, I2, rx, a, ov, ex, g, q2⟩ => ?_
  subst ex
  obtain rfl : u = Value.ref a := rx
  exact n_in hu I2 g ry fun s3 I3 => ⟨.bl ov.isSome, H2, I3, rfl, q2⟩
theorem pc_nnotin (hu : X.A.units + 9 < cLine) (hi : PE X i ty) (ho : PE X o td) : PC X .NotIn i o (tNNotIn X.kw ty td) := by
  refine ⟨fun pins s σ H Q I h => ?_⟩
  refine thn (hi.run pins s σ H _ I h) fun iv s1 ⟨y, H1, I1, ry, q1⟩ => thn (ho.run pins s1 σ H1 _ I1 q1) fun u s2 ⟨x, H2, I2, rx, a, ov, ex, g, q2⟩ => ?_
  subst ex
  obtain rfl : u = Value.ref a := rx
  exact n_notIn hu I2 g ry fun s3 I3 => ⟨.bl (!ov.isSome), H2, I3, rfl, q2⟩
theorem ps_nput (hu : X.A.units + 9 < cLine) (ho : PE X o td) (hi : PE X i ty) (hv : PE X value tv) (hs : swapsWith value (some (.Subscript o i pos')) pos.line X.env = pure false) :
    PS X (.Assign [.Subscript o i pos'] value pos) (sNPut X.kw td ty tv) := by
  refine ⟨fun pins s σ H D I h => ?_⟩
  refine wpAny_Assign_Subscript (thn (hv.run pins s σ H _ I h) fun r s1 ⟨v, H1, I1, rv, q1⟩ => thn (ho.run pins s1 σ H1 _ I1 q1) fun u s2 ⟨x, H2, I2, rx, q2⟩ => thn (hi.run pins s2 σ H2 _ I2 q2) fun iv s3 ⟨y, H3, I3, ry, a, Hf, xs, kvs, b, k, kd, ex, ey, z, ra, kx, nd, hl, hk, hn, hd, q3⟩ => ?_) hs
  subst ex ey
  obtain rfl : u = Value.ref a := rx
  obtain rfl : iv = Value.ref b := ry
  exact n_setItem hu I3 z ra kx nd hl hk hn hd fun ep s4 I4 => ⟨σ, _, I4, q3 r ep rv⟩
theorem PC.or {op : CmpOp} {t u : TE} (h1 : PC X op i o t) (h2 : PC X op i o u) : PC X op i o (fun σ H Q => t σ H Q ∨ u σ H Q) := ⟨fun pins s σ H Q I h => h.elim (h1.run pins s σ H Q I) (h2.run pins s σ H Q I)⟩
end
end Zd

set_option maxHeartbeats 4000000
/-! Dicts of both kinds: the rules over plain data. -/
namespace Zd
open PySem PySem.Spec PyProof.Rows L2 Pd
section
variable {K : KW} {bs : Bs} {fo go : Ox} {r r1 r2 : D → D → Option D}
theorem op2_or (h : ∀ x y d, r x y = some d → r1 x y = some d ∨ r2 x y = some d) {Γ Γ' : Gm} {d : D} (e : eOp2 r fo go Γ = some (d, Γ')) : eOp2 r1 fo go Γ = some (d, Γ') ∨ eOp2 r2 fo go Γ = some (d, Γ') := by
  unfold eOp2 at e ⊢
  rw [Option.bind_eq_some_iff] at e
  obtain ⟨p, e1, e⟩ := e
  rw [Option.bind_eq_some_iff] at e
  obtain ⟨q, e2, e⟩ := e
  rw [Option.bind_eq_some_iff] at e
  obtain ⟨x, e3, e⟩ := e
  rw [Option.bind_eq_some_iff] at e
  obtain ⟨y, e4, e⟩ := e
  rw [Option.map_eq_some_iff] at e
  obtain ⟨c, e5, e⟩ := e
  rw [e1]
  show (((go p.2).bind _) = _) ∨ (((go p.2).bind _) = _)
  rw [e2]
  show ((p.1.get q.2).bind _) = _ ∨ ((p.1.get q.2).bind _) = _
  rw [e3]
  show ((q.1.get q.2).bind _) = _ ∨ ((q.1.get q.2).bind _) = _
  rw [e4]
  rcases h _ _ _ e5 with h | h
  · left
    show (r1 x y).map _ = _
    rw [h]
    exact congrArg some e
  · right
    show (r2 x y).map _ = _
    rw [h]
    exact congrArg some e
theorem tZ_or (h : ∀ x y d, r x y = some d → r1 x y = some d ∨ r2 x y = some d) (σ : L2.St) (H : Hp) (Q : VK) (hq : tZ K bs (eOp2 r fo go) σ H Q) : tZ K bs (eOp2 r1 fo go) σ H Q ∨ tZ K bs (eOp2 r2 fo go) σ H Q := by
  obtain ⟨Hf, Γ, d, Γ', st, e, q⟩ := hq
  rcases op2_or h e with e | e
  · exact .inl ⟨Hf, Γ, d, Γ', st, e, q⟩
  · exact .inr ⟨Hf, Γ, d, Γ', st, e, q⟩
theorem tX_or (h : ∀ x y d, r x y = some d → r1 x y = some d ∨ r2 x y = some d) (σ : L2.St) (H : Hp) (Q : Bool → Hp → Prop) (hq : tX K bs (xB (eOp2 r fo go)) σ H Q) : tX K bs (xB (eOp2 r1 fo go)) σ H Q ∨ tX K bs (xB (eOp2 r2 fo go)) σ H Q := by
  obtain ⟨Hf, Γ, c, Γ', st, e, q⟩ := hq
  have fin : ∀ {r' : D → D → Option D}, eOp2 r' fo go Γ = some (.bl c, Γ') → xB (eOp2 r' fo go) Γ = some (c, Γ') := fun {r'} e => by
    unfold xB
    rw [e]
    rfl
  rcases op2_or h (xB_some e) with e | e
  · exact .inl ⟨Hf, Γ, c, Γ', st, fin e, q⟩
  · exact .inr ⟨Hf, Γ, c, Γ', st, fin e, q⟩
end
theorem dgetU_or (x y d : D) (e : dgetU x y = some d) : dgetD x y = some d ∨ dgetN x y = some d := by
  unfold dgetU at e
  split at e
  · exact .inl e
  · exact .inr e
theorem dinU_or (x y d : D) (e : dinU x y = some d) : dinD x y = some d ∨ dinN x y = some d := by
  unfold dinU at e
  split at e
  · exact .inl e
  · exact .inr e
theorem dniU_or (x y d : D) (e : dniU x y = some d) : dniD x y = some d ∨ dniN x y = some d := by
  unfold dniU at e
  split at e
  · exact .inl e
  · exact .inr e
theorem get1U_or (x y d : D) (e : get1U x y = some d) : get1D x y = some d ∨ get1N x y = some d := by
  unfold get1U at e
  split at e
  · exact .inl e
  · exact .inr e
section
variable {X : Cx} {bs : Bs} {fr : Md} {o i e c value : Expr} {pos p2 : Pos} {fo go : Ox} {f : Ex} {j : Nat}
theorem z_nget (hu : X.A.units + 9 < cLine) (ho : PE X o (tO X.kw bs fo)) (hi : PE X i (tO X.kw bs go)) (hs : NoSl i) : PE X (.Subscript o i pos) (tZ X.kw bs (eOp2 dgetN fo go)) :=
  (pe_nget hu ho hi hs).wk fun σ H Q h => tOp_of (rr := fun x y H Q => ∃ a v, x = .ref a ∧ DGetN X.kw H a y (some v) ∧ Q v H) (fun x y H Q q => by
    obtain ⟨σ, Hf, Γ, dx, dy, d, st, rx, ry, e, q⟩ := q
    unfold dgetN at e
    rw [Option.bind_eq_some_iff] at e
    obtain ⟨kvs, e1, e⟩ := e
    rw [Option.bind_eq_some_iff] at e
    obtain ⟨k, e2, e⟩ := e
    obtain ⟨a, o, rfl, g, _, _, h⟩ := get_nc st.fz rx ry e1 e2
    obtain ⟨w, rfl, hw⟩ := h d e
    exact ⟨a, w, rfl, g, q.rest st hw⟩) σ H Q h
theorem z_dgetU (hu : X.A.units + 9 < cLine) (ho : PE X o (tO X.kw bs fo)) (hi : PE X i (tO X.kw bs go)) (hs : NoSl i) : PE X (.Subscript o i pos) (tZ X.kw bs (eOp2 dgetU fo go)) :=
  (PE.or (z_dget (by omega) ho hi hs) (z_nget hu ho hi hs)).wk fun σ H Q h => tZ_or dgetU_or σ H Q h
theorem rNin {K : KW} (neg : Bool) {r : D → D → Option D} (hr : ∀ y x d, r y x = some d → ∃ kvs k, ncOf x = some kvs ∧ keyN y = some k ∧ d = .bl (if neg then !(valN kvs k).isSome else (valN kvs k).isSome)) (y x : V) (H : Hp) (Q : VK) (q : rZ K bs r y x H Q) :
    ∃ a o, x = .ref a ∧ DGetN K H a y o ∧ Q (.bl (if neg then !o.isSome else o.isSome)) H := by
  obtain ⟨σ, Hf, Γ, dy, dx, d, st, ry, rx, e, q⟩ := q
  obtain ⟨kvs, k, e1, e2, rfl⟩ := hr _ _ _ e
  obtain ⟨a, o, rfl, g, h, _, _⟩ := get_nc st.fz rx ry e1 e2
  refine ⟨a, o, rfl, g, ?_⟩
  rw [h]
  exact q.rest st (.bl _)
theorem dinN_some (y x d : D) (e : dinN y x = some d) : ∃ kvs k, ncOf x = some kvs ∧ keyN y = some k ∧ d = .bl (if false then !(valN kvs k).isSome else (valN kvs k).isSome) := by
  unfold dinN at e
  rw [Option.bind_eq_some_iff] at e
  obtain ⟨kvs, e1, e⟩ := e
  rw [Option.map_eq_some_iff] at e
  obtain ⟨k, e2, rfl⟩ := e
  exact ⟨kvs, k, e1, e2, rfl⟩
theorem dniN_some (y x d : D) (e : dniN y x = some d) : ∃ kvs k, ncOf x = some kvs ∧ keyN y = some k ∧ d = .bl (if true then !(valN kvs k).isSome else (valN kvs k).isSome) := by
  unfold dniN at e
  rw [Option.bind_eq_some_iff] at e
  obtain ⟨kvs, e1, e⟩ := e
  rw [Option.map_eq_some_iff] at e
  obtain ⟨k, e2, rfl⟩ := e
  exact ⟨kvs, k, e1, e2, rfl⟩
theorem z_nin (hu : X.A.units + 9 < cLine) (hi : PE X i (tO X.kw bs fo)) (ho : PE X o (tO X.kw bs go)) (h1 : behindInMarks .In o = false := by rfl) : PE X (.Compare i [.In] [o] pos) (tZ X.kw bs (eOp2 dinN fo go)) :=
  (pe_cmp (pc_nin hu hi ho) h1).wk fun σ H Q h => tOp_of (rr := fun y x H Q => ∃ a o, x = .ref a ∧ DGetN X.kw H a y o ∧ Q (.bl o.isSome) H) (fun y x H Q q => rNin false dinN_some y x H Q q) σ H Q h
theorem z_nnin (hu : X.A.units + 9 < cLine) (hi : PE X i (tO X.kw bs fo)) (ho : PE X o (tO X.kw bs go)) (h1 : behindInMarks .NotIn o = false := by rfl) : PE X (.Compare i [.NotIn] [o] pos) (tZ X.kw bs (eOp2 dniN fo go)) :=
  (pe_cmp (pc_nnotin hu hi ho) h1).wk fun σ H Q h => tOp_of (rr := fun y x H Q => ∃ a o, x = .ref a ∧ DGetN X.kw H a y o ∧ Q (.bl (!o.isSome)) H) (fun y x H Q q => rNin true dniN_some y x H Q q) σ H Q h
theorem x_nin (hu : X.A.units + 9 < cLine) (hi : PE X i (tO X.kw bs fo)) (ho : PE X o (tO X.kw bs go)) (h1 : behindInMarks .In o = false := by rfl) : PT X (.Compare i [.In] [o] pos) (tX X.kw bs (xB (eOp2 dinN fo go))) :=
  (pt_cmp (pc_nin hu hi ho) h1).wk fun σ H Q h => by
    have := tTest_of σ H Q h
    exact tOp_of (rr := fun y x H Q => ∃ a o, x = .ref a ∧ DGetN X.kw H a y o ∧ Q (.bl o.isSome) H) (fun y x H Q q => rNin false dinN_some y x H Q q) σ H _ this
theorem x_nnin (hu : X.A.units + 9 < cLine) (hi : PE X i (tO X.kw bs fo)) (ho : PE X o (tO X.kw bs go)) (h1 : behindInMarks .NotIn o = false := by rfl) : PT X (.Compare i [.NotIn] [o] pos) (tX X.kw bs (xB (eOp2 dniN fo go))) :=
  (pt_cmp (pc_nnotin hu hi ho) h1).wk fun σ H Q h => by
    have := tTest_of σ H Q h
    exact tOp_of (rr := fun y x H Q => ∃ a o, x = .ref a ∧ DGetN X.kw H a y o ∧ Q (.bl (!o.isSome)) H) (fun y x H Q q => rNin true dniN_some y x H Q q) σ H _ this
theorem PT.or {t u : TT} (h1 : PT X e t) (h2 : PT X e u) : PT X e (fun σ H Q => t σ H Q ∨ u σ H Q) := ⟨fun pins s σ H Q I h => h.elim (h1.run pins s σ H Q I) (h2.run pins s σ H Q I)⟩
theorem z_dinU (hu : X.A.units + 9 < cLine) (hi : PE X i (tO X.kw bs fo)) (ho : PE X o (tO X.kw bs go)) (h1 : behindInMarks .In o = false := by rfl) : PE X (.Compare i [.In] [o] pos) (tZ X.kw bs (eOp2 dinU fo go)) :=
  (PE.or (z_din (by omega) hi ho h1) (z_nin hu hi ho h1)).wk fun σ H Q h => tZ_or dinU_or σ H Q h
theorem z_dninU (hu : X.A.units + 9 < cLine) (hi : PE X i (tO X.kw bs fo)) (ho : PE X o (tO X.kw bs go)) (h1 : behindInMarks .NotIn o = false := by rfl) : PE X (.Compare i [.NotIn] [o] pos) (tZ X.kw bs (eOp2 dniU fo go)) :=
  (PE.or (z_dnin (by omega) hi ho h1) (z_nnin hu hi ho h1)).wk fun σ H Q h => tZ_or dniU_or σ H Q h
theorem x_dinU (hu : X.A.units + 9 < cLine) (hi : PE X i (tO X.kw bs fo)) (ho : PE X o (tO X.kw bs go)) (h1 : behindInMarks .In o = false := by rfl) : PT X (.Compare i [.In] [o] pos) (tX X.kw bs (xB (eOp2 dinU fo go))) :=
  (PT.or (x_din (by omega) hi ho h1) (x_nin hu hi ho h1)).wk fun σ H Q h => tX_or dinU_or σ H Q h
theorem x_dninU (hu : X.A.units + 9 < cLine) (hi : PE X i (tO X.kw bs fo)) (ho : PE X o (tO X.kw bs go)) (h1 : behindInMarks .NotIn o = false := by rfl) : PT X (.Compare i [.NotIn] [o] pos) (tX X.kw bs (xB (eOp2 dniU fo go))) :=
  (PT.or (x_dnin (by omega) hi ho h1) (x_nnin hu hi ho h1)).wk fun σ H Q h => tX_or dniU_or σ H Q h
/-! ### d[k] = v -/
def muN (Γ : Gm) (i : Nat) : Option (List (D × D)) := (muD Γ i).bind ncOf
def sNput (i : Nat) (f : Ex) (fo : Ox) : Sx := fun Γ => (f Γ).bind fun p => (muN p.2 i).bind fun _ => (fo p.2).bind fun q => (q.1.get q.2).bind fun kd => (keyN kd).bind fun k => (muN q.2 i).bind fun kvs => if kvs.length < 10000000 then some (.nx, putS q.2 i (.dcn (putN kvs kd k p.1))) else none
theorem muN_at {K : KW} {b : Bs} {Hf H : Hp} {σ : L2.St} {Γ : Gm} {i : Nat} {kvs : List (D × D)} (s : StR K b Hf H σ Γ) (e : muN Γ i = some kvs) : ∃ a xs, σ[i]? = some (some (.ref a)) ∧ RawAt K.w H a xs ∧ KX K Hf xs kvs ∧ (xs.map (·.1)).Nodup ∧ ∃ d, muD Γ i = some d := by
  unfold muN at e
  rw [Option.bind_eq_some_iff] at e
  obtain ⟨d, e1, e2⟩ := e
  obtain ⟨m, g⟩ := muD_mu e1
  obtain ⟨a, d', h1, h2, h3, h4, _⟩ := s.muAt m
  rw [g] at h2
  cases h2
  obtain ⟨a', xs, h5, h6, _, h7, h8⟩ := rd_nc s.fz (.inr ⟨a, rfl, h4⟩) e2
  cases h5
  exact ⟨a, xs, h1, h6, h7, h8, d, e1⟩
theorem s_nput (hu : X.A.units + 9 < cLine) (he : PE X e (tZ X.kw bs f)) (ho : PE X o (tVar j)) (hi : PE X c (tO X.kw bs fo)) (hs : swapsWith e (some (.Subscript o c p2)) pos.line X.env = pure false := by rfl) :
    PS X (.Assign [.Subscript o c p2] e pos) (tS X.kw bs fr (sNput j f fo)) := (ps_nput hu ho hi he hs).wk fun D σ H ⟨Hf, Γ, fl, Γ', st, e, q⟩ => by
  unfold sNput at e
  rw [Option.bind_eq_some_iff] at e
  obtain ⟨⟨d1, Γ1⟩, e1, e⟩ := e
  rw [Option.bind_eq_some_iff] at e
  obtain ⟨ds0, e0, e⟩ := e
  rw [Option.bind_eq_some_iff] at e
  obtain ⟨⟨o2, Γ2⟩, e2, e⟩ := e
  rw [Option.bind_eq_some_iff] at e
  obtain ⟨dk, e3, e⟩ := e
  rw [Option.bind_eq_some_iff] at e
  obtain ⟨k, e4, e⟩ := e
  rw [Option.bind_eq_some_iff] at e
  obtain ⟨kvs, e5, e⟩ := e
  split at e
  · rename_i hl
    cases e
    refine ⟨Hf, Γ, d1, Γ1, st, e1, fun v Hf1 H1 s1 x1 r1 => ?_⟩
    obtain ⟨a, xs0, h1, h2, h3, _⟩ := muN_at s1 e0
    refine ⟨.ref a, h1, Hf1, Γ1, o2, Γ2, s1, e2, fun w Hf2 H2 s2 x2 r2 => ?_⟩
    obtain ⟨a', xs, h1', h4, h5, nd, dd, h6⟩ := muN_at s2 e5
    rw [h1] at h1'
    cases h1'
    obtain ⟨b, rfl, hb, hn, hd⟩ := rd_key (ovRd s2 r2 e3) e4
    have hlx : xs.length < 10000000 := by rw [← h5.len]; exact hl
    refine ⟨a, Hf2, xs, kvs, b, k, dk, rfl, rfl, s2.fz, h4, h5, nd, hlx, hb, hn, hd, fun u ep ru => ?_⟩
    have kx := h5.put hb hn hd ru (r1.mono x2.f)
    have hlen := storedH_len xs k b u
    obtain ⟨s3, x3⟩ := s2.put (o := rawO a ((storedH xs k b u).map (ent X.kw.w)) ep) h6 h1 (d' := .dcn (putN kvs dk k d1)) ⟨_, ep, upd_same, by rw [List.length_map]; omega, kx_repKD kx, kx.nodup.mpr (storedH_nodup xs k b u nd)⟩
    exact q _ _ _ s3 ((x1.f.trans x2.f).trans x3.f)
  · cases e
def isDcD : D → Bool
  | .dct _ => true
  | .dcn _ => true
  | _ => false
def muU (Γ : Gm) (i : Nat) : Option D := (muD Γ i).bind fun d => if isDcD d = true then some d else none
def putU (c kd x : D) : Option D :=
  if isKy kd = true then (keyD kd).bind fun k => (dctOf c).bind fun kvs => if kvs.length < 10000000 then some (.dct (putD kvs k x)) else none
  else (keyN kd).bind fun k => (ncOf c).bind fun kvs => if kvs.length < 10000000 then some (.dcn (putN kvs kd k x)) else none
def sDputU (i : Nat) (f : Ex) (fo : Ox) : Sx := fun Γ => (f Γ).bind fun p => (fo p.2).bind fun q => (q.1.get q.2).bind fun kd => (muU p.2 i).bind fun c0 => (muU q.2 i).bind fun c => (putU c0 kd p.1).bind fun _ => (putU c kd p.1).map fun c' => (.nx, putS q.2 i c')
theorem PS.or {st : Stmt} {t u : TS} (h1 : PS X st t) (h2 : PS X st u) : PS X st (fun D σ H => t D σ H ∨ u D σ H) := ⟨fun pins s σ H D I h => h.elim (h1.run pins s σ H D I) (h2.run pins s σ H D I)⟩
theorem s_dputU (hu : X.A.units + 9 < cLine) (he : PE X e (tZ X.kw bs f)) (ho : PE X o (tVar j)) (hi : PE X c (tO X.kw bs fo)) (hs : swapsWith e (some (.Subscript o c p2)) pos.line X.env = pure false := by rfl) :
    PS X (.Assign [.Subscript o c p2] e pos) (tS X.kw bs fr (sDputU j f fo)) := (PS.or (s_dput (by omega) he ho hi hs) (s_nput hu he ho hi hs)).wk fun D σ H ⟨Hf, Γ, fl, Γ', st, e, q⟩ => by
  unfold sDputU at e
  rw [Option.bind_eq_some_iff] at e
  obtain ⟨⟨d1, Γ1⟩, e1, e⟩ := e
  rw [Option.bind_eq_some_iff] at e
  obtain ⟨⟨o2, Γ2⟩, e2, e⟩ := e
  rw [Option.bind_eq_some_iff] at e
  obtain ⟨dk, e3, e⟩ := e
  rw [Option.bind_eq_some_iff] at e
  obtain ⟨c0, e4, e⟩ := e
  rw [Option.bind_eq_some_iff] at e
  obtain ⟨c1, e5, e⟩ := e
  rw [Option.bind_eq_some_iff] at e
  obtain ⟨c2, e6, e⟩ := e
  rw [Option.map_eq_some_iff] at e
  obtain ⟨c3, e7, e⟩ := e
  cases e
  have mu1 : ∀ {Γ : Gm} {c : Zd.D}, muU Γ j = some c → muD Γ j = some c := fun {Γ c} h => by
    unfold muU at h
    rw [Option.bind_eq_some_iff] at h
    obtain ⟨d, h1, h⟩ := h
    split at h
    · cases h; exact h1
    · cases h
  have m0 := mu1 e4
  have m1 := mu1 e5
  unfold putU at e6 e7
  by_cases hk : isKy dk = true
  · rw [if_pos hk] at e6 e7
    rw [Option.bind_eq_some_iff] at e6 e7
    obtain ⟨k0, b0, b1⟩ := e6
    obtain ⟨k, a1, e7⟩ := e7
    rw [Option.bind_eq_some_iff] at e7 b1
    obtain ⟨kvs0, b2, b3⟩ := b1
    obtain ⟨kvs, a2, e7⟩ := e7
    split at e7
    · rename_i hl
      cases e7
      refine .inl ⟨Hf, Γ, _, _, st, ?_, q⟩
      unfold sDput
      rw [e1]
      show (muK Γ1 j).bind _ = _
      unfold muK
      rw [m0]
      show ((dctOf c0).bind _) = _
      rw [b2]
      show (fo Γ1).bind _ = _
      rw [e2]
      show (o2.get Γ2).bind _ = _
      rw [e3]
      show (keyD dk).bind _ = _
      rw [a1]
      show ((muD Γ2 j).bind dctOf).bind _ = _
      rw [m1]
      show (dctOf c1).bind _ = _
      rw [a2]
      exact if_pos hl
    · cases e7
  · rw [if_neg hk] at e6 e7
    rw [Option.bind_eq_some_iff] at e6 e7
    obtain ⟨k0, b0, b1⟩ := e6
    obtain ⟨k, a1, e7⟩ := e7
    rw [Option.bind_eq_some_iff] at e7 b1
    obtain ⟨kvs0, b2, b3⟩ := b1
    obtain ⟨kvs, a2, e7⟩ := e7
    split at e7
    · rename_i hl
      cases e7
      refine .inr ⟨Hf, Γ, _, _, st, ?_, q⟩
      unfold sNput
      rw [e1]
      show (muN Γ1 j).bind _ = _
      unfold muN
      rw [m0]
      show ((ncOf c0).bind _) = _
      rw [b2]
      show (fo Γ1).bind _ = _
      rw [e2]
      show (o2.get Γ2).bind _ = _
      rw [e3]
      show (keyN dk).bind _ = _
      rw [a1]
      show ((muD Γ2 j).bind ncOf).bind _ = _
      rw [m1]
      show (ncOf c1).bind _ = _
      rw [a2]
      exact if_pos hl
    · cases e7
end
end Zd

set_option maxHeartbeats 4000000
/-! The order of plain data: sorted, min, max, <, <=, >, >= of tuples and the like. -/
namespace Zd
open PySem PySem.Spec PyProof.Rows L2 Pd
abbrev ltP (a b : D) : Bool := PySem.W.dataLt (toPy a) (toPy b)
abbrev leP (a b : D) : Bool := !ltP b a
abbrev akP (a b : D) : Bool := PySem.W.alike (toPy a) (toPy b)
def alikeB (ds : List D) : Bool := ds.all fun a => ds.all fun b => akP a b
def neT : D → Bool
  | .tup (_ :: _) => true
  | _ => false
def nnD : D → Bool
  | .non => false
  | _ => true
def othB : D → Bool
  | .non => false
  | .tup _ => false
  | _ => true
def okSort (ds : List D) : Bool := ds.all okE && (alikeB ds && ((ds.all neT || ds.all othB) && decide (ds.length ≤ 10000000)))
def okOrd (ds : List D) : Bool := ds.all okE && (alikeB ds && ds.all nnD)
def sortT : List D → Option D
  | [.lst ds] => if okSort ds = true then some (.lst (ds.mergeSort leP)) else none
  | _ => none
def pickT (r : D → List D → D) : List D → Option D
  | [.lst (d :: ds)] => if okOrd (d :: ds) = true then some (r d ds) else none
  | _ => none
def minT : List D → Option D := pickT fun d ds => ds.foldl (fun a y => if ltP y a then y else a) d
def maxT : List D → Option D := pickT fun d ds => ds.foldl (fun a y => if ltP a y then y else a) d
def okCmp (x y : D) : Bool := okE x && (okE y && (akP x y && nnD x))
def ltT (x y : D) : Option D := if okCmp x y = true then some (.bl (ltP x y)) else none
def gtT (x y : D) : Option D := if okCmp x y = true then some (.bl (ltP y x)) else none
def leT (x y : D) : Option D := if okCmp x y = true then some (.bl (!ltP y x)) else none
def geT (x y : D) : Option D := if okCmp x y = true then some (.bl (!ltP x y)) else none
mutual
theorem toPy_inj : ∀ {d e : D}, (toPy d).plain = true → (toPy e).plain = true → toPy d = toPy e → d = e
  | .non, e, _, h, q => by cases e <;> simp only [toPy, reduceCtorEq] at q; rfl
  | .bl _, e, _, h, q => by cases e <;> simp only [toPy, reduceCtorEq, PyData.bool.injEq] at q; rw [q]
  | .int _, e, _, h, q => by cases e <;> simp only [toPy, reduceCtorEq, PyData.int.injEq] at q; rw [q]
  | .str _, e, _, h, q => by cases e <;> simp only [toPy, reduceCtorEq, PyData.str.injEq] at q; rw [q]
  | .tup ds, e, g, h, q => by
    cases e <;> simp only [toPy, reduceCtorEq, PyData.tuple.injEq] at q
    rw [toPy, PyData.plain] at g h
    rw [toPys_inj g h q]
  | .lst ds, e, g, h, q => by
    cases e <;> simp only [toPy, reduceCtorEq, PyData.list.injEq] at q
    rw [toPy, PyData.plain] at g h
    rw [toPys_inj g h q]
  | .ty _, e, g, h, q => by rw [toPy, PyData.plain] at g; cases g
  | .ob _, e, g, h, q => by rw [toPy, PyData.plain] at g; cases g
  | .scr _, e, g, h, q => by rw [toPy, PyData.plain] at g; cases g
  | .dct _, e, g, h, q => by rw [toPy, PyData.plain] at g; cases g
  | .dcn _, e, g, h, q => by rw [toPy, PyData.plain] at g; cases g
theorem toPys_inj : ∀ {ds es : List D}, PyData.plainAll (toPys ds) = true → PyData.plainAll (toPys es) = true → toPys ds = toPys es → ds = es
  | [], [], _, _, _ => rfl
  | [], e :: es, _, _, q => by simp [toPys] at q
  | d :: ds, [], _, _, q => by simp [toPys] at q
  | d :: ds, e :: es, g, h, q => by
    simp only [toPys, List.cons.injEq] at q
    rw [toPys, PyData.plainAll, Bool.and_eq_true] at g h
    rw [toPy_inj g.1 h.1 q.1, toPys_inj g.2 h.2 q.2]
end
theorem okAll {ds : List D} (h : ds.all okE = true) : ∀ d ∈ ds, (toPy d).plain = true ∧ (toPy d).depth ≤ 60 := fun d hd => okE_of (List.all_eq_true.mp h d hd)
theorem alikeB_of {ds : List D} (h : alikeB ds = true) : ∀ a ∈ ds, ∀ b ∈ ds, akP a b = true := fun a ha b hb => List.all_eq_true.mp (List.all_eq_true.mp h a ha) b hb
theorem sortable_of {ds : List D} (h : (ds.all neT || ds.all othB) = true) : PySem.W.Sortable (ds.map toPy) := by
  rw [Bool.or_eq_true] at h
  rcases h with h | h
  · refine .inl fun p hp => ?_
    obtain ⟨d, hd, rfl⟩ := List.mem_map.mp hp
    have := List.all_eq_true.mp h d hd
    cases d with
    | tup l =>
      cases l with
      | nil => cases this
      | cons a l => exact ⟨toPy a, toPys l, by rw [toPy, toPys]⟩
    | _ => cases this
  · refine .inr fun p hp => ?_
    obtain ⟨d, hd, rfl⟩ := List.mem_map.mp hp
    have := List.all_eq_true.mp h d hd
    cases d with
    | non => cases this
    | tup l => cases this
    | _ => exact ⟨by simp [toPy], fun xs => by simp [toPy]⟩
/-! ### over the heap -/
section
variable {X : Cx} {bs : Bs}
def rSortT (K : PySem.W.Frag) : List V → Hp → VK → Prop := fun vs H Q => ∃ (l : Addr) (ps : List (V × PyData)), vs = [.ref l] ∧ SqL K H l (ps.map Prod.fst) ∧ (∀ p ∈ ps, Dp K H p.1 p.2) ∧ PySem.W.AllAlike (ps.map Prod.snd) ∧ PySem.W.Sortable (ps.map Prod.snd) ∧ ps.length ≤ 10000000 ∧ (∀ p ∈ ps, p.2.depth ≤ 60) ∧
  ∀ p, H p = none → Q (.ref p) (upd H p (.lst ((ps.mergeSort (PySem.W.dataLe false Prod.snd)).map Prod.fst)))
theorem each_of : ∀ {ps : List (V × PyData)} {its : List Value}, Vals (ps.map Prod.fst) its → PySem.W.EachIs (fun (u : Value) (p : V × PyData) => RelV p.1 u) its ps
  | [], its, r => by cases r; exact .nil
  | p :: ps, its, r => by
    rw [List.map_cons] at r
    cases r with
    | cons r rs => exact .cons r (each_of rs)
theorem of_each : ∀ {ps : List (V × PyData)} {its : List Value}, PySem.W.EachIs (fun (u : Value) (p : V × PyData) => RelV p.1 u) its ps → Vals (ps.map Prod.fst) its
  | [], its, r => by cases r; exact .nil
  | p :: ps, its, r => by
    cases r with
    | cons r rs => exact .cons r (of_each rs)
theorem each_rd {pins : List (Addr × Obj)} {σ : L2.St} {H : Hp} {s : Shared} (I : L2.Inv X pins σ H s) : ∀ {ps : List (V × PyData)} {its : List Value}, (∀ p ∈ ps, Dp X.K H p.1 p.2) → Vals (ps.map Prod.fst) its → PySem.W.EachIs (fun (u : Value) (p : V × PyData) => ∃ as, Reads s.heap u p.2 as) its ps
  | [], its, _, r => by cases r; exact .nil
  | p :: ps, its, h, r => by
    rw [List.map_cons] at r
    cases r with
    | cons r rs => exact .cons (Dp.reads I p.2 p.1 _ (h p (List.mem_cons_self ..)) r) (each_rd I (fun q hq => h q (List.mem_cons_of_mem _ hq)) rs)
theorem cr_sortT (hu : X.A.units + 64 < cLine) : CallR X (.builtin "sorted") (rSortT X.K) := by
  intro pins s σ H vs us Q I r h
  obtain ⟨l, ps, rfl, hl, hd, ha, hs, hn, hp, q⟩ := h
  rw [Vals.ref1 r]
  obtain ⟨its, rv, pl, hz⟩ := I.list hl
  refine PySem.W.sorted_data (enc := Prod.snd) (bs := ps) (by simpa using pl.isList) (each_of rv) (each_rd I hd rv) ha hs (by rw [sizeLine_eq]; omega) (fun b hb => by have := hp b hb; omega) fun out ho he => ?_
  have hq := q (s.heap.objs.size + 1) (I.hok.fresh (Nat.le_succ _))
  refine ⟨.ref (s.heap.objs.size + 1), _, I.laid (t' := s.toks) (fun b o e => sortedAll_old e) (Nat.le_succ _) ?_, rfl, hq⟩
  obtain ⟨n, hn2⟩ := sortedAll_at s.heap its out.toArray
  exact ⟨by rw [List.length_map, List.length_mergeSort, sizeLine_eq]; omega, out, n, of_each he, hn2⟩
/-- a call that gives one of the items -/
def rPickT (K : PySem.W.Frag) (g : PyData → List PyData → PyData) : List V → Hp → VK → Prop := fun vs H Q => ∃ (l : Addr) (p : V × PyData) (ps : List (V × PyData)), vs = [.ref l] ∧ SqL K H l ((p :: ps).map Prod.fst) ∧ (∀ q ∈ p :: ps, Dp K H q.1 q.2) ∧ PySem.W.AlikeAll ((p :: ps).map Prod.snd) ∧ (∀ q ∈ p :: ps, q.2.depth ≤ 60) ∧
  ∀ q ∈ p :: ps, q.2 = g p.2 (ps.map Prod.snd) → Q q.1 H
theorem depthAll_le : ∀ {l : List PyData}, (∀ d ∈ l, d.depth ≤ 60) → PyData.depthAll l ≤ 60
  | [], _ => by rw [PyData.depthAll]; omega
  | d :: l, h => by
    rw [PyData.depthAll]
    have h1 := h d (List.mem_cons_self ..)
    have h2 := depthAll_le fun e he => h e (List.mem_cons_of_mem _ he)
    omega
theorem reads_of {pins : List (Addr × Obj)} {σ : L2.St} {H : Hp} {s : Shared} (I : L2.Inv X pins σ H s) {ps : List (V × PyData)} {its : List Value} (h : ∀ p ∈ ps, Dp X.K H p.1 p.2) (r : Vals (ps.map Prod.fst) its) : ∃ as, ReadsAll s.heap its (ps.map Prod.snd) as :=
  PySem.W.each_readsAll Prod.snd (each_rd I h r)
theorem vals_at : ∀ {ps : List (V × PyData)} {its : List Value} {i : Nat} {u : Value}, Vals (ps.map Prod.fst) its → its[i]? = some u → ∃ q, ps[i]? = some q ∧ RelV q.1 u
  | [], its, i, u, r, e => by cases r; simp at e
  | p :: ps, its, 0, u, r, e => by
    rw [List.map_cons] at r
    cases r with
    | cons r rs => simp at e; subst e; exact ⟨p, rfl, r⟩
  | p :: ps, its, i + 1, u, r, e => by
    rw [List.map_cons] at r
    cases r with
    | cons r rs =>
      obtain ⟨q, h1, h2⟩ := vals_at (ps := ps) (i := i) rs (by simpa using e)
      exact ⟨q, by simpa using h1, h2⟩
theorem foldl_mem {α : Type} (f : α → α → α) (hf : ∀ a b, f a b = a ∨ f a b = b) : ∀ (l : List α) (a : α), l.foldl f a ∈ a :: l
  | [], a => List.mem_cons_self ..
  | b :: l, a => by
    rw [List.foldl_cons]
    have := foldl_mem f hf l (f a b)
    rcases hf a b with h | h <;> rw [h] at this ⊢
    · rcases List.mem_cons.mp this with h2 | h2
      · rw [h2]; exact List.mem_cons_self ..
      · exact List.mem_cons_of_mem _ (List.mem_cons_of_mem _ h2)
    · exact List.mem_cons_of_mem _ this
theorem cr_pickT {g : PyData → List PyData → PyData} {nm : String} (hc : X.calm = true) (hu : X.A.units + 64 < cLine) (hg : ∀ x xs, g x xs ∈ x :: xs)
    (hcall : ∀ {E : Value → Shared → Prop} {s : Shared} {l : Addr} {vs : Array Value} {x : PyData} {xs : List PyData} {as : List Addr} {Q : Value → Shared → Prop}, X.A.handled = none → s.heap.IsList l vs → ReadsAll s.heap vs.toList (x :: xs) as → PySem.W.AlikeAll (x :: xs) → X.A.units + 1 + PyData.depthAll (x :: xs) < cLine →
      (∀ (i : Nat) v h' tk bs, vs[i]? = some v → Reads h' v (g x xs) bs → (∀ b o, s.heap.get? b = some o → h'.get? b = some o) → Q v { s with heap := h', toks := tk }) → wpAny (model X.prog X.w) X.A (call (.builtin nm) [.ref l]) Q E s) : CallR X (.builtin nm) (rPickT X.K g) := by
  intro pins s σ H vs us Q I r h
  obtain ⟨l, p, ps, rfl, hl, hd, ha, hp, q⟩ := h
  rw [Vals.ref1 r]
  obtain ⟨its, rv, pl, hz⟩ := I.list hl
  obtain ⟨as, ra⟩ := reads_of I hd rv
  have hdep := depthAll_le (l := (p :: ps).map Prod.snd) fun d hd => by obtain ⟨q, hq, rfl⟩ := List.mem_map.mp hd; exact hp q hq
  refine hcall (x := p.2) (xs := ps.map Prod.snd) (I.ok.hd hc) pl.isList ra ha (by rw [List.map_cons] at hdep; omega) fun i v h' tk bs hi hr hk => ?_
  have hi' : its[i]? = some v := by simpa using hi
  obtain ⟨q', hq', rq⟩ := vals_at rv hi'
  have hm := List.mem_of_getElem? hq'
  obtain ⟨as', r1⟩ := Dp.reads I q'.2 q'.1 v (hd q' hm) rq
  have r2 := PyProof.Rows.Reads.keeps hk r1
  have hgm := hg p.2 (ps.map Prod.snd)
  have he : q'.2 = g p.2 (ps.map Prod.snd) := PySem.W.alike_unique _ _ _ _ _ (ha.1 _ (List.mem_map_of_mem (f := Prod.snd) hm) _ hgm) r2 hr
  exact ⟨q'.1, H, I.kept hk, rq, q q' hm he⟩
theorem cr_minT (hc : X.calm = true) (hu : X.A.units + 64 < cLine) : CallR X (.builtin "min") (rPickT X.K PySem.W.minD) :=
  cr_pickT hc hu (fun x xs => foldl_mem _ (fun a b => by split <;> simp) xs x) fun h1 h2 h3 h4 h5 h6 => PySem.W.min_list_data h1 h2 h3 h4 h5 h6
theorem cr_maxT (hc : X.calm = true) (hu : X.A.units + 64 < cLine) : CallR X (.builtin "max") (rPickT X.K PySem.W.maxD) :=
  cr_pickT hc hu (fun x xs => foldl_mem _ (fun a b => by split <;> simp) xs x) fun h1 h2 h3 h4 h5 h6 => PySem.W.max_list_data h1 h2 h3 h4 h5 h6
/-! ### the rules -/
theorem dps {K : KW} {Hf H : Hp} (z : Same Hf H) : ∀ {us : List V} {ds : List D}, RepAll K Hf us ds → ds.all okE = true → ∀ p ∈ us.zip ds, Dp K.f H p.1 (toPy p.2) ∧ Rep K Hf p.1 p.2 ∧ (toPy p.2).depth ≤ 60
  | _, _, .nil, _, p, hp => by simp at hp
  | _, _, .cons r rs, h, p, hp => by
    rw [List.all_cons, Bool.and_eq_true] at h
    rw [List.zip_cons_cons] at hp
    rcases List.mem_cons.mp hp with rfl | hp
    · exact ⟨r.dp z (okE_of h.1).1, r, (okE_of h.1).2⟩
    · exact dps z rs h.2 p hp
theorem zip_fst {α β : Type} : ∀ {as : List α} {bs : List β}, as.length = bs.length → (as.zip bs).map Prod.fst = as ∧ (as.zip bs).map Prod.snd = bs
  | [], [], _ => ⟨rfl, rfl⟩
  | a :: as, b :: bs, h => by
    obtain ⟨h1, h2⟩ := zip_fst (as := as) (bs := bs) (Nat.succ.inj h)
    rw [List.zip_cons_cons, List.map_cons, List.map_cons, h1, h2]
    exact ⟨rfl, rfl⟩
theorem repAll_zip {K : KW} {H : Hp} : ∀ (l : List (V × D)), (∀ p ∈ l, Rep K H p.1 p.2) → RepAll K H (l.map Prod.fst) (l.map Prod.snd)
  | [], _ => .nil
  | p :: l, h => .cons (h p (List.mem_cons_self ..)) (repAll_zip l fun q hq => h q (List.mem_cons_of_mem _ hq))
theorem allAlike_of {ds : List D} (h : alikeB ds = true) : PySem.W.AllAlike (ds.map toPy) := fun a ha b hb => by
  obtain ⟨x, hx, rfl⟩ := List.mem_map.mp ha
  obtain ⟨y, hy, rfl⟩ := List.mem_map.mp hb
  exact alikeB_of h x hx y hy
theorem cz_sortT (hu : X.A.units + 64 < cLine) : CallR X (.builtin "sorted") (rZNF X.kw bs sortT) := callWk (cr_sortT hu) fun xs H Q h => by
  obtain ⟨σ, Hf, Γ, dx, d, st, rx, e, q⟩ := h
  unfold sortT at e
  split at e
  · rename_i ds
    split at e
    · rename_i hk
      cases e
      unfold okSort at hk
      rw [Bool.and_eq_true, Bool.and_eq_true, Bool.and_eq_true, decide_eq_true_eq] at hk
      obtain ⟨k1, k2, k3, k4⟩ := hk
      obtain ⟨x, rfl, rx1⟩ := rds1 rx; replace rx := rx1
      obtain ⟨a, us, rfl, h1, h2⟩ := rd_lst st.fz rx
      have hlen := h2.len
      obtain ⟨z1, z2⟩ := zip_fst (as := us) (bs := ds) hlen
      have hd := dps st.fz h2 k1
      have m1 : ((us.zip ds).map fun p => (p.1, toPy p.2)).map Prod.fst = us := by rw [List.map_map]; exact z1
      have m2 : ((us.zip ds).map fun p => (p.1, toPy p.2)).map Prod.snd = ds.map toPy := by
        rw [List.map_map]
        exact (List.map_map (f := Prod.snd) (g := toPy) (l := us.zip ds)).symm.trans (by rw [z2])
      refine ⟨a, (us.zip ds).map fun p => (p.1, toPy p.2), rfl, by rw [m1]; exact SqL.of h1, fun p hp => ?_, by rw [m2]; exact allAlike_of k2, by rw [m2]; exact sortable_of k3, by rw [List.length_map, List.length_zip, hlen]; omega, fun p hp => ?_, fun p np => ?_⟩
      · obtain ⟨w, hw, rfl⟩ := List.mem_map.mp hp
        exact (hd w hw).1
      · obtain ⟨w, hw, rfl⟩ := List.mem_map.mp hp
        exact (hd w hw).2.2
      · have e1 : ((us.zip ds).map fun p => (p.1, toPy p.2)).mergeSort (PySem.W.dataLe false Prod.snd) = ((us.zip ds).mergeSort fun p q => leP p.2 q.2).map fun p => (p.1, toPy p.2) := (List.map_mergeSort (f := fun p : V × D => (p.1, toPy p.2)) (r := fun p q => leP p.2 q.2) (s := PySem.W.dataLe false Prod.snd) fun a _ b _ => rfl).symm
        have e2 : ds.mergeSort leP = ((us.zip ds).mergeSort fun p q => leP p.2 q.2).map Prod.snd := by
          rw [List.map_mergeSort (s := leP) fun a _ b _ => rfl, z2]
        rw [e1, List.map_map]
        rw [e2] at q
        exact q.lst st np (repAll_zip ((us.zip ds).mergeSort fun p q => leP p.2 q.2) fun p hp => (hd p (List.mem_mergeSort.mp hp)).2.1)
    · cases e
  · cases e
theorem foldl_py (f : PyData → PyData → Bool) (g : D → D → Bool) (h : ∀ a y, g a y = f (toPy a) (toPy y)) : ∀ (ds : List D) (d : D), toPy (ds.foldl (fun a y => if g a y then y else a) d) = (ds.map toPy).foldl (fun a y => if f a y then y else a) (toPy d)
  | [], _ => rfl
  | e :: ds, d => by
    rw [List.foldl_cons, List.map_cons, List.foldl_cons, foldl_py f g h ds, h]
    split <;> rfl
theorem cz_pickT {nm : String} {g : PyData → List PyData → PyData} {r : D → List D → D} (hc : CallR X (.builtin nm) (rPickT X.K g)) (hr : ∀ d ds, toPy (r d ds) = g (toPy d) (ds.map toPy)) (hm : ∀ d ds, r d ds ∈ d :: ds) :
    CallR X (.builtin nm) (rZN X.kw bs (pickT r)) := callWk hc fun xs H Q h => by
  obtain ⟨σ, Hf, Γ, dx, d0, st, rx, e, q⟩ := h
  unfold pickT at e
  split at e
  · rename_i d ds
    split at e
    · rename_i hk
      cases e
      unfold okOrd at hk
      rw [Bool.and_eq_true, Bool.and_eq_true] at hk
      obtain ⟨k1, k2, k3⟩ := hk
      obtain ⟨x, rfl, rx1⟩ := rds1 rx; replace rx := rx1
      obtain ⟨a, us, rfl, h1, h2⟩ := rd_lst st.fz rx
      cases h2 with
      | cons r1 rs =>
        rename_i v vs
        have hd := dps st.fz (RepAll.cons r1 rs) k1
        have hlen := rs.len
        obtain ⟨z1, z2⟩ := zip_fst (as := vs) (bs := ds) hlen
        have m1 : (((v, toPy d) :: (vs.zip ds).map fun p => (p.1, toPy p.2)).map Prod.fst) = v :: vs := by rw [List.map_cons, List.map_map]; exact congrArg (v :: ·) z1
        have m3 : ((vs.zip ds).map fun p => (p.1, toPy p.2)).map Prod.snd = ds.map toPy := by
          rw [List.map_map]
          exact (List.map_map (f := Prod.snd) (g := toPy) (l := vs.zip ds)).symm.trans (by rw [z2])
        have m2 : (((v, toPy d) :: (vs.zip ds).map fun p => (p.1, toPy p.2)).map Prod.snd) = (d :: ds).map toPy := by rw [List.map_cons, m3, List.map_cons]
        have hall : ∀ p ∈ ((v, toPy d) :: (vs.zip ds).map fun p => (p.1, toPy p.2)), ∃ w, w ∈ (v :: vs).zip (d :: ds) ∧ p = (w.1, toPy w.2) := fun p hp => by
          rcases List.mem_cons.mp hp with rfl | hp
          · exact ⟨(v, d), by rw [List.zip_cons_cons]; exact List.mem_cons_self .., rfl⟩
          · obtain ⟨w, hw, rfl⟩ := List.mem_map.mp hp
            exact ⟨w, by rw [List.zip_cons_cons]; exact List.mem_cons_of_mem _ hw, rfl⟩
        refine ⟨a, (v, toPy d), (vs.zip ds).map fun p => (p.1, toPy p.2), rfl, by rw [m1]; exact SqL.of h1, fun p hp => ?_, by
          rw [m2]
          refine ⟨allAlike_of k2, fun p hp => ?_⟩
          obtain ⟨w, hw, rfl⟩ := List.mem_map.mp hp
          have := List.all_eq_true.mp k3 w hw
          cases w <;> first | (cases this; done) | simp [toPy], fun p hp => ?_, fun p hp he => ?_⟩
        · obtain ⟨w, hw, rfl⟩ := hall p hp
          exact (hd w hw).1
        · obtain ⟨w, hw, rfl⟩ := hall p hp
          exact (hd w hw).2.2
        · obtain ⟨w, hw, rfl⟩ := hall p hp
          rw [m3, ← hr d ds] at he
          have k1' := okAll k1
          have hwd : w.2 ∈ d :: ds := (List.of_mem_zip hw).2
          have : w.2 = r d ds := toPy_inj (k1' _ hwd).1 (k1' _ (hm d ds)).1 he
          rw [← this] at q
          exact q.rest st (hd w hw).2.1
    · cases e
  · cases e
theorem cz_minT (hc : X.calm = true) (hu : X.A.units + 64 < cLine) : CallR X (.builtin "min") (rZN X.kw bs minT) :=
  cz_pickT (bs := bs) (cr_minT hc hu) (fun d ds => foldl_py (fun a y => PySem.W.dataLt y a) (fun a y => ltP y a) (fun _ _ => rfl) ds d) fun d ds => foldl_mem _ (fun a b => by split <;> simp) ds d
theorem cz_maxT (hc : X.calm = true) (hu : X.A.units + 64 < cLine) : CallR X (.builtin "max") (rZN X.kw bs maxT) :=
  cz_pickT (bs := bs) (cr_maxT hc hu) (fun d ds => foldl_py (fun a y => PySem.W.dataLt a y) (fun a y => ltP a y) (fun _ _ => rfl) ds d) fun d ds => foldl_mem _ (fun a b => by split <;> simp) ds d
end
end Zd

set_option maxHeartbeats 4000000
/-! Values that are None or a new object; dicts written out; len(d). -/
namespace Zd
open PySem PySem.Spec PyProof.Rows L2 Pd
/-- None, or an object of its own -/
def tM (K : KW) (b : Bs) (f : Ex) : TE := fun σ H Q => ∃ Hf Γ d Γ', StR K b Hf H σ Γ ∧ f Γ = some (d, Γ') ∧ ∀ v Hf' H', StR K b Hf' H' σ Γ' → Ext σ Γ Γ' Hf H Hf' H' → ((v = .non ∧ d = .non) ∨ NewO K H Hf' H' v d) → Q v H'
def eNonO (f : Ex) : Ex := fun Γ => (f Γ).bind fun p => match p.1 with
  | .non => some p
  | _ => none
def setM (i : Nat) (d : D) (Γ : Gm) : Gm := match d with
  | .non => Γ.set i (.val .non)
  | d => Γ.set i (.own d)
def sOwnM (i : Nat) (f : Ex) : Sx := fun Γ => (f Γ).map fun p => (.nx, setM i p.1 p.2)
section
variable {X : Cx} {K : KW} {bs : Bs} {fr : Md} {a b e c : Expr} {es : List Expr} {kws : List Keyword} {pos p : Pos} {f g : Ex} {fs gs : Exs} {t : Tx} {F : List D → Option D} {i j k n : Nat} {x : Str} {ks : List Str}
theorem NewO.nn {H Hf' H' : Hp} {v : V} (h : NewO K H Hf' H' v .non) : False := by
  obtain ⟨_, _, _, _, c⟩ := h
  exact c
theorem m_f (he : PE X e (tF K bs f)) : PE X e (tM K bs f) := he.wk fun σ H Q ⟨Hf, Γ, d, Γ', st, e, q⟩ => ⟨Hf, Γ, d, Γ', st, e, fun a Hf' H' s x n1 n2 c => q _ Hf' H' s x (.inr ⟨a, rfl, n1, n2, c⟩)⟩
theorem m_non (he : PE X e (tZ K bs f)) : PE X e (tM K bs (eNonO f)) := he.wk fun σ H Q ⟨Hf, Γ, d, Γ', st, e, q⟩ => by
  unfold eNonO at e
  rw [Option.bind_eq_some_iff] at e
  obtain ⟨⟨d1, Γ1⟩, e1, e⟩ := e
  split at e
  · rename_i h
    have h : d1 = .non := h
    subst h
    cases e
    exact ⟨Hf, Γ, .non, Γ', st, e1, fun v Hf' H' s x r => q v Hf' H' s x (.inl ⟨by cases r; rfl, rfl⟩)⟩
  · cases e
theorem m_if (hc : PT X c (tX K bs t)) (ha : PE X a (tM K bs f)) (hb : PE X b (tM K bs g)) : PE X (.IfExp c a b pos) (tM K bs (eIf t f g)) := (pe_ifExp hc ha hb).wk fun σ H Q hq => by
  obtain ⟨Hf, Γ, d, Γ', st, e, q⟩ := hq
  unfold eIf at e
  rw [Option.bind_eq_some_iff] at e
  obtain ⟨⟨c', Γ1⟩, e1, e⟩ := e
  have hh : ∀ {a : Addr} {H1 : Hp}, (∀ a o, H a = some o → ∃ o', H1 a = some o') → H1 a = none → H a = none := fun {a H1} dm n => by
    cases z : H a with
    | none => rfl
    | some o => obtain ⟨o', w⟩ := dm a o z; rw [n] at w; cases w
  refine ⟨Hf, Γ, c', Γ1, st, e1, fun Hf1 H1 s1 x1 => ?_⟩
  have fin : ∀ {h : Ex}, h Γ1 = some (d, Γ') → tM K bs h σ H1 Q := fun {h} e => ⟨Hf1, Γ1, d, Γ', s1, e, fun w Hf2 H2 s2 x2 r2 => q _ _ _ s2 (x1.trans x2) (by
    rcases r2 with r2 | ⟨a, rfl, n1, n2, cc⟩
    · exact .inl r2
    · exact .inr ⟨a, rfl, hh x1.dm n1, n2, cc⟩)⟩
  cases c' with
  | true => exact iteT (fin e)
  | false => exact iteF (fin e)
theorem callM_of {n m : Nat} (hn : ∀ Γ ds Γ', fs Γ = some (ds, Γ') → ds.length = n) (hm : ∀ Γ ds Γ', gs Γ = some (ds, Γ') → ds.length = m) (σ : L2.St) (H : Hp) (Q : VK)
    (hq : tM K bs (eCallK F fs gs) σ H Q) : tCallC n m (spV K .may F) (tVs K bs fs) (tVs K bs gs) σ H Q := by
  obtain ⟨Hf, Γ, d, Γ', st, e, q⟩ := hq
  unfold eCallK at e
  have e := Option.bind_eq_some_iff.mp e
  obtain ⟨⟨d1, Γ1⟩, e1, e⟩ := e
  have e := Option.bind_eq_some_iff.mp e
  obtain ⟨⟨d2, Γ2⟩, e2, e⟩ := e
  have e := Option.map_eq_some_iff.mp e
  obtain ⟨r, e3, e⟩ := e
  cases e
  refine ⟨Hf, Γ, d1, Γ1, st, e1, fun vs Hf1 H1 s1 x1 r1 => ⟨Hf1, Γ1, d2, Γ2, s1, e2, fun zs Hf2 H2 s2 x2 r2 => ⟨by rw [r1.len]; exact hn _ _ _ e1, by rw [r2.len]; exact hm _ _ _ e2, Hf2, d1 ++ d2, d, s2.fz, (r1.mono x2.f).append r2, e3, fun v Hf3 H3 h1 h2 h3 h4 rr => ?_⟩⟩⟩
  obtain ⟨s3, x3⟩ := after_call s2 h1 h2 h3 h4
  refine q v Hf3 H3 s3 ((x1.trans x2).trans x3) ?_
  rcases (show (v = .non ∧ d = .non) ∨ NewO K H2 Hf3 H3 v d from rr) with h | ⟨a, rfl, n1, n2, cc⟩
  · exact .inl h
  · refine .inr ⟨a, rfl, ?_, n2, cc⟩
    cases z : H a with
    | none => rfl
    | some o => obtain ⟨o', w⟩ := (x1.trans x2).dm a o z; rw [n1] at w; cases w
theorem m_call (c : CallOk X.prog X.w X.K X.mg X.base k x n [] (spV X.kw .may F)) (hgd : X.A.guards = some []) (hr : Room j X.A) (hk : k ≤ j) (hg : Gl X x) (ha : PA X (e :: es) (tVs X.kw bs fs)) (hn : ∀ Γ ds Γ', fs Γ = some (ds, Γ') → ds.length = n)
    (hdb : (x == ("__debug__" : Str)) = false := by decide) (he : starEach (e :: es) X.env = (false, eval e X.env) :: starEach es X.env := by rfl) (hpl : (backTo pos (starEach es X.env)).any (·.1) = false := by rfl) :
    PE X (.Call (.Name x p) (e :: es) [] pos) (tM X.kw bs (eCall F fs)) := (pe_c1 c hgd hr hk hg ha hdb he hpl).wk fun σ H Q q => tC_nil (K := X.kw) (bs := bs) σ H Q (fun σ H Q Q' w h => tVs_mono σ H Q Q' w h) (callM_of hn eqlen_N σ H Q (by
      rw [eCall_K]
      exact q))
theorem m_callk (c : CallOk X.prog X.w X.K X.mg X.base k x 0 ks (spV X.kw .may F)) (hgd : X.A.guards = some []) (hr : Room j X.A) (hk : k ≤ j) (hg : Gl X x) (hkw : PK X kws (tVs X.kw bs gs)) (hn : ∀ Γ ds Γ', gs Γ = some (ds, Γ') → ds.length = ks.length)
    (hall : (backToKw pos (keywordEach kws X.env)).all (·.1.isSome) = true := by rfl) (hks : (backToKw pos (keywordEach kws X.env)).filterMap (·.1) = ks := by rfl) (hdb : (x == ("__debug__" : Str)) = false := by decide)
    (hpl : ((backTo pos (starEach [] X.env)).any (·.1) || (backToKw pos (keywordEach kws X.env)).any (·.1.isNone)) = false := by rfl) :
    PE X (.Call (.Name x p) [] kws pos) (tM X.kw bs (eCall F gs)) := (pe_c0 c hgd hr hk hg hkw hall hks hdb hpl).wk fun σ H Q q => tC_nil0 (K := X.kw) (bs := bs) σ H Q (callM_of eqlen_N hn σ H Q (by
      rw [eCall_K0]
      exact q))
/-- at rest at once -/
theorem z_m (h : PE X e (tM K bs f)) : PE X e (tZ K bs f) := h.wk fun σ H Q hq => by
  obtain ⟨Hf, Γ, d, Γ', st, e, q⟩ := hq
  refine ⟨Hf, Γ, d, Γ', st, e, fun v Hf1 H1 s1 x1 m => ?_⟩
  rcases m with ⟨rfl, rfl⟩ | ⟨a, rfl, n1, n2, c⟩
  · exact q _ _ _ s1 x1 .non
  have hn : ∀ j, mu Γ' j → σ[j]? ≠ some (some (.ref a)) := fun j m ej => st.mune (x1.k j m) ej n1 rfl
  have ne : ∀ o, H1 a = some o → Ext σ Γ Γ' Hf H (upd Hf1 a o) H1 := fun o eo => ⟨x1.f.trans (sameNew n2), x1.h, fun y u z => by
    by_cases hy : y = a
    · subst hy; exact .inr n1
    · rw [upd_ne hy] at z; exact x1.n y u z, x1.dm, x1.k⟩
  cases d with
  | lst ds =>
    obtain ⟨xs, e1, r⟩ := c
    exact q _ _ _ (s1.restAt e1 hn n2 (st.bnone n1)) (ne _ e1) (.lst upd_same (r.mono (sameNew n2)))
  | dct ds =>
    obtain ⟨xs, e1, r⟩ := c
    exact q _ _ _ (s1.restAt e1 hn n2 (st.bnone n1)) (ne _ e1) (.dct upd_same (r.mono (sameNew n2)))
  | dcn ds =>
    obtain ⟨xs, ep, e1, hl, r, nd⟩ := c
    exact q _ _ _ (s1.restAt e1 hn n2 (st.bnone n1)) (ne _ e1) (.dcn upd_same hl (r.mono (sameNew n2)) nd)
  | _ => exact c.elim
theorem s_retM (he : PE X e (tM K bs f)) : PS X (.Return (some e) pos) (tS K bs .may (sRet f)) := (ps_ret he).wk fun D σ H ⟨Hf, Γ, fl, Γ', s, e, q⟩ => by
  unfold sRet at e
  rw [Option.map_eq_some_iff] at e
  obtain ⟨⟨d, Γ1⟩, e1, e2⟩ := e
  cases e2
  refine ⟨Hf, Γ, d, Γ1, s, e1, fun v Hf1 H1 s1 x1 m => q _ σ Hf1 H1 s1 x1.f ?_⟩
  rcases m with h | ⟨a, rfl, n1, n2, c⟩
  · exact .inl h
  · exact .inr ⟨a, rfl, n2, c, s.bnone n1⟩
theorem s_retOM (he : PE X e (tVar i)) : PS X (.Return (some e) pos) (tS K bs .may (sRetO i)) := (ps_ret he).wk fun D σ H ⟨Hf, Γ, fl, Γ', s, e, q⟩ => by
  unfold sRetO at e
  split at e
  · rename_i d eg
    cases e
    obtain ⟨o, h1, h2⟩ := s.slot eg
    cases h2 with
    | own n c hb => exact ⟨_, h1, q _ σ Hf H s (Same.refl _) (.inr ⟨_, rfl, n, c, hb⟩)⟩
  · cases e
theorem s_retNM : PS X (.Return none pos) (tS K bs .may sRetN) := ps_retN.wk fun D σ H ⟨Hf, Γ, fl, Γ', s, e, q⟩ => by
  have e : some (Fl.rt .non, Γ) = some (fl, Γ') := e
  cases e
  exact q _ σ Hf H s (Same.refl _) (.inl ⟨rfl, rfl⟩)
theorem setM_own {d : D} {Γ : Gm} {H Hf' H' : Hp} {v : V} (h : NewO K H Hf' H' v d) : setM i d Γ = Γ.set i (.own d) := by
  cases d with
  | non => exact (NewO.nn h).elim
  | _ => rfl
theorem s_ownM {pos' : Pos} (hN : X.N.Nodup) (hi : X.N[i]? = some x) (hx : Loc X.env.scope x) (he : PE X e (tM K bs f)) (hs : swapsWith e (some (.Name x pos')) pos.line X.env = pure false := by rfl) (hf : X.fn x = true ∨ X.env.scope.names.lookup x = some .local := by first | exact .inl rfl | exact .inr rfl | assumption) :
    PS X (.Assign [.Name x pos'] e pos) (tS K bs fr (sOwnM i f)) := (ps_set hN hi hx he hs hf).wk fun D σ H hq => by
  obtain ⟨Hf, Γ, fl, Γ', s, e, q⟩ := hq
  unfold sOwnM at e
  rw [Option.map_eq_some_iff] at e
  obtain ⟨⟨d, Γ1⟩, e1, e2⟩ := e
  cases e2
  refine ⟨Hf, Γ, d, Γ1, s, e1, fun v Hf1 H1 s1 x1 m => ?_⟩
  rcases m with ⟨rfl, rfl⟩ | ⟨a, rfl, n1, n2, c⟩
  · exact q _ Hf1 H1 (s1.setV .non) x1.f
  · have hm := setM_own (i := i) (Γ := Γ1) (K := K) (H := H) (Hf' := Hf1) (H' := H1) ⟨a, rfl, n1, n2, c⟩
    have st : StR K bs Hf1 H1 (σ.set i (some (.ref a))) (setM i d Γ1) := by
      rw [hm]
      exact s1.setO n2 c (s.bnone n1) fun j m ej => s.mune (x1.k j m) ej n1 rfl
    exact q _ Hf1 H1 st x1.f
end
end Zd

set_option maxHeartbeats 4000000
/-! Dicts written out (keys ints and texts), of several pairs; len(d). -/
namespace Zd
open PySem PySem.Spec PyProof.Rows L2 Pd
def eDispR : List (Ox × Ex) → Gm → Option (List (Key × D) × Gm)
  | [], Γ => some ([], Γ)
  | (fo, f) :: l, Γ => (fo Γ).bind fun p => (f p.2).bind fun q => (p.1.get q.2).bind fun kd => (keyD kd).bind fun k => (eDispR l q.2).map fun r => ((k, q.1) :: r.1, r.2)
def mergeD (kvs more : List (Key × D)) : List (Key × D) := more.foldl (fun acc kv => putD acc kv.1 kv.2) kvs
def eDisp (l : List (Ox × Ex)) : Ex := fun Γ => (eDispR l Γ).map fun r => (.dct (mergeD [] r.1), r.2)
abbrev trs (K : KW) (b : Bs) (l : List (Ox × Ex)) : List (TE × TE) := l.map fun x => (tO K b x.1, tZ K b x.2)
section
variable {K : KW} {b : Bs} {H : Hp}
theorem RepKV.merge : ∀ {more : List (Key × V)} {mored : List (Key × D)} {ks : List (Key × V)} {kvs : List (Key × D)}, RepKV K H more mored → RepKV K H ks kvs → RepKV K H (mergeK ks more) (mergeD kvs mored)
  | _, _, _, _, .nil, r => r
  | _, _, ks, kvs, .cons (k := k) (v := v) (d := d) h t, r => RepKV.merge (ks := putK ks k v) (kvs := putD kvs k d) t (r.put h)
theorem pairs_of : ∀ (l : List (Ox × Ex)) {σ : L2.St} {Γ Γ' : Gm} {Hf H : Hp} {Q : List (V × V) → Hp → Prop} {kvs : List (Key × D)}, StR K b Hf H σ Γ → eDispR l Γ = some (kvs, Γ') →
    (∀ Hf2 H2 ks, StR K b Hf2 H2 σ Γ' → Ext σ Γ Γ' Hf H Hf2 H2 → RepKV K Hf2 ks kvs → kvs.length = l.length → Q (ks.map fun kv => (kV kv.1, kv.2)) H2) → tPairs (trs K b l) σ H Q
  | [], σ, Γ, Γ', Hf, H, Q, kvs, st, e, q => by
    cases e
    exact q Hf H [] st Ext.refl .nil rfl
  | (fo, f) :: l, σ, Γ, Γ', Hf, H, Q, kvs, st, e, q => by
    rw [eDispR, Option.bind_eq_some_iff] at e
    obtain ⟨⟨o1, Γ1⟩, e1, e⟩ := e
    rw [Option.bind_eq_some_iff] at e
    obtain ⟨⟨d2, Γ2⟩, e2, e⟩ := e
    rw [Option.bind_eq_some_iff] at e
    obtain ⟨dk, e3, e⟩ := e
    rw [Option.bind_eq_some_iff] at e
    obtain ⟨k, e4, e⟩ := e
    rw [Option.map_eq_some_iff] at e
    obtain ⟨⟨kvs', Γ3⟩, e5, e⟩ := e
    cases e
    refine ⟨Hf, Γ, o1, Γ1, st, e1, fun w Hf1 H1 s1 x1 r1 => ⟨Hf1, Γ1, d2, Γ2, s1, e2, fun y Hf2 H2 s2 x2 r2 => ?_⟩⟩
    cases key_rd (ovRd s2 (r1.mono x2.f) e3) e4
    exact pairs_of l s2 e5 fun Hf3 H3 ks s3 x3 r3 hl => q Hf3 H3 ((k, y) :: ks) s3 ((x1.trans x2).trans x3) (.cons (r2.mono x3.f) r3) (congrArg Nat.succ hl)
end
section
variable {X : Cx} {bs : Bs} {pos : Pos} {keys : List (Option Expr)} {values : List Expr} {l : List (Ox × Ex)} {k v : Expr} {fo : Ox} {f : Ex}
theorem d_nil : PPs X pos [] [] (trs X.kw bs []) := pps_nil
theorem d_cons (hk : PE X k (tO X.kw bs fo)) (hv : PE X v (tZ X.kw bs f)) (h : PPs X pos keys values (trs X.kw bs l)) : PPs X pos (some k :: keys) (v :: values) (trs X.kw bs ((fo, f) :: l)) := pps_cons hk hv h
theorem f_disp (h : PPs X pos keys values (trs X.kw bs l)) (hl : l.length ≤ 15 := by simp) (hall : keys.all (·.isSome) = true := by rfl) (hlen : keys.length = values.length := by rfl) (h0 : keys ≠ [] := by simp) (h15 : keys.length ≤ 15 := by simp) : PE X (.Dict keys values pos) (tF X.kw bs (eDisp l)) :=
  (pe_disp h hall hlen h0 h15).wk fun σ H Q ⟨Hf, Γ, d, Γ', st, e, q⟩ => by
  unfold eDisp at e
  rw [Option.map_eq_some_iff] at e
  obtain ⟨⟨kvs, Γ1⟩, e1, e⟩ := e
  cases e
  intro p np
  refine pairs_of l (st.made np) e1 fun Hf2 H2 ks s2 x2 r2 hkl => ?_
  have hmu : ∀ j, mu Γ j → σ[j]? ≠ some (some (.ref p)) := fun j m ej => st.mune m ej np rfl
  have hp : H2 p = some (.dK []) := x2.h p _ upd_same hmu
  have x12 := (st.madeX (o := .dK []) np).trans x2
  have hfp : Hf2 p = none := by
    cases z : Hf2 p with
    | none => rfl
    | some u =>
      rcases x2.n p u z with h4 | h4
      · rw [st.fnone np] at h4; cases h4
      · rw [upd_same] at h4; cases h4
  refine ⟨hp, ks, rfl, by rw [r2.len, hkl]; exact hl, ?_⟩
  refine q p Hf2 _ ?_ ?_ np hfp ⟨mergeK [] ks, upd_same, r2.merge .nil⟩
  · refine ⟨s2.len, fun j w g a1 a2 => ?_, s2.inj, fun a o ea => ?_, s2.f0, s2.fresh, fun a o ea => ?_, fun a o ea hr => ?_⟩
    · have ne : ∀ a, mu Γ1 j → σ[j]? = some (some (.ref a)) → a ≠ p := fun a m ej h => hmu j (x2.k j m) (h ▸ ej)
      cases s2.sl j w g a1 a2 with
      | no => exact .no
      | fn r => exact .fn r
      | val r => exact .val r
      | own n1 c hb => exact .own n1 (c.mono (Same.refl _) (upd_ne (ne _ ⟨_, .inl a2⟩ a1))) hb
      | byr n1 c hb => exact .byr n1 (c.mono (Same.refl _) (upd_ne (ne _ ⟨_, .inr a2⟩ a1))) hb
    · rw [upd_ne (fun h => by subst h; rw [hfp] at ea; cases ea)]; exact s2.fz a o ea
    · obtain ⟨o', q'⟩ := s2.dom a o ea
      by_cases ha : a = p
      · subst ha; exact ⟨_, upd_same⟩
      · exact ⟨o', by rw [upd_ne ha]; exact q'⟩
    · rw [upd_ne (fun h => by subst h; rw [st.bnone np] at ea; cases ea)]; exact s2.fr a o ea hr
  · refine ⟨x12.f, fun a o ea hn => ?_, x12.n, fun a o ea => ?_, x12.k⟩
    · rw [upd_ne (fun h => by subst h; rw [np] at ea; cases ea)]; exact x12.h a o ea hn
    · obtain ⟨o', q'⟩ := x12.dm a o ea
      by_cases ha : a = p
      · subst ha; exact ⟨_, upd_same⟩
      · exact ⟨o', by rw [upd_ne ha]; exact q'⟩
end
/-! ### len(d) -/
def lenN : List D → Option D
  | [.dct kvs] => some (.int kvs.length)
  | [.dcn kvs] => some (.int kvs.length)
  | _ => none
def rLenN (K : KW) : List V → Hp → VK → Prop := fun vs H Q => ∃ a Hf xs kvs, vs = [.ref a] ∧ Same Hf H ∧ RawAt K.w H a xs ∧ KX K Hf xs kvs ∧ (xs.map (·.1)).Nodup ∧ xs.length ≤ 10000000 ∧ Q (.int xs.length) H
theorem cr_lenN {X : Cx} : CallR X (.builtin "len") (rLenN X.kw) := by
  intro pins s σ H vs us Q I r h
  obtain ⟨a, Hf, xs, kvs, rfl, z, ra, kx, nd, hl, q⟩ := h
  rw [Vals.ref1 r]
  obtain ⟨h1, dd⟩ := rawAt I z ra kx nd
  have hm : s.heap.DictKeyed (nestedKind X.prog X.w) a (pairsH xs) := ⟨xs, dd, rfl⟩
  have hll : (pairsH xs).length = xs.length := pairsH_length xs
  refine PyProof.Rows.call_len_slot (n := (pairsH xs).length) hm.typeIs PySem.F.slot_dict_len (fun Q' hq => len_keyed h1 hm hq) (by omega) (by omega) ?_
  refine ⟨.int xs.length, H, I.tok _, ?_, q⟩
  rw [hll]
  exact ⟨_, rfl⟩
/-- len of a list, a text, a dict of either kind -/
def lenU : List D → Option D
  | [.dct kvs] => some (.int kvs.length)
  | [.dcn kvs] => some (.int kvs.length)
  | ds => lenD ds
theorem cz_lenU {X : Cx} {bs : Bs} : CallR X (.builtin "len") (rZN X.kw bs lenU) := callWk ((cz_len (bs := bs)).or (call_lenD.or cr_lenN)) fun xs H Q h => by
  obtain ⟨σ, Hf, Γ, dx, d, st, rx, e, q⟩ := h
  unfold lenU at e
  split at e
  · cases e
    obtain ⟨x, rfl, rx1⟩ := rds1 rx
    obtain ⟨a, us, rfl, h1, h2⟩ := rd_dct st.fz rx1
    exact .inr (.inl ⟨a, us, rfl, h1, by rw [h2.len]; exact q.rest st (.int _)⟩)
  · cases e
    obtain ⟨x, rfl, rx1⟩ := rds1 rx
    obtain ⟨a, us, ep, rfl, h1, h2, h3, h4⟩ := rd_dN st.fz rx1
    exact .inr (.inr ⟨a, Hf, us, _, rfl, st.fz, .inl ⟨ep, h1⟩, h3, h4, h2, by first | exact q.rest st (.int _) | (rw [← h3.len]; exact q.rest st (.int _))⟩)
  · exact .inl ⟨σ, Hf, Γ, dx, d, st, rx, e, q⟩
end Zd

set_option maxHeartbeats 4000000
/-! l[i], l[j] = .. -/
namespace Zd
open PySem PySem.Spec PyProof.Rows L2 Pd
def setIxG (i : Nat) (fo : Ox) (d : D) : Gm → Option Gm := fun Γ => (muL Γ i).bind fun _ => (fo Γ).bind fun q => (q.1.get q.2).bind fun k => (toI k).bind fun k => (muL q.2 i).bind fun ds => (ixN ds.length k).map fun j => putS q.2 i (.lst (ds.set j d))
def pairD : D → Option (D × D)
  | .tup [a, b] => some (a, b)
  | _ => none
def sSwap (i : Nat) (f : Ex) (fo : Ox) (j : Nat) (go : Ox) : Sx := fun Γ => (f Γ).bind fun p => (pairD p.1).bind fun ab => (setIxG i fo ab.1 p.2).bind fun Γ1 => (setIxG j go ab.2 Γ1).map fun Γ2 => (.nx, Γ2)
theorem pairD_some {d : D} {ab : D × D} (e : pairD d = some ab) : d = .tup [ab.1, ab.2] := by
  unfold pairD at e
  split at e
  · cases e; rfl
  · cases e
section
variable {X : Cx} {bs : Bs} {fr : Md} {a b c o o2 e : Expr} {pos p2 p3 pt : Pos} {f : Ex} {fo go : Ox} {i j : Nat}
theorem g_sub {v : V} {d : D} {σ : L2.St} {Hf H : Hp} {Γ Γ' : Gm} {Q : L2.St → Hp → Prop} (st : StR X.kw bs Hf H σ Γ) (rp : Rep X.kw Hf v d) (e : setIxG i fo d Γ = some Γ') (q : ∀ Hf' H', StR X.kw bs Hf' H' σ Γ' → Same Hf Hf' → Q σ H') :
    gSub (tVar i) (tO X.kw bs fo) rSetL v σ H Q := by
  unfold setIxG at e
  rw [Option.bind_eq_some_iff] at e
  obtain ⟨ds0, e0, e⟩ := e
  rw [Option.bind_eq_some_iff] at e
  obtain ⟨⟨o2, Γ2⟩, e2, e⟩ := e
  rw [Option.bind_eq_some_iff] at e
  obtain ⟨dk, e3, e⟩ := e
  rw [Option.bind_eq_some_iff] at e
  obtain ⟨k, e4, e⟩ := e
  rw [Option.bind_eq_some_iff] at e
  obtain ⟨ds, e5, e⟩ := e
  rw [Option.map_eq_some_iff] at e
  obtain ⟨l, e6, e⟩ := e
  cases e
  obtain ⟨a, xs0, h1, h2, h3, _⟩ := muL_at st e0
  refine ⟨.ref a, h1, Hf, Γ, o2, Γ2, st, e2, fun w Hf2 H2 s2 x2 r2 => ?_⟩
  obtain ⟨a', xs, h1', h4, h5, h6⟩ := muL_at s2 e5
  rw [h1] at h1'
  cases h1'
  have rd := ovRd s2 r2 e3
  rw [toI_some e4] at rd
  obtain ⟨s3, x3⟩ := s2.put (o := .lst (xs.set l v)) h6 h1 (contL upd_same (h5.set (rp.mono x2.f) l))
  exact ⟨a, xs, k, l, rfl, rd_int rd, h4, by rw [h5.len]; exact e6, q _ _ s3 (x2.f.trans x3.f)⟩
/-- l[a], m[b] = e: the right side a pair -/
theorem s_swap {kt : Nat} (hc : X.calm = true) (he : PE X e (tZ X.kw bs f)) (ho : PE X o (tVar i)) (hi : PE X c (tO X.kw bs fo)) (ho2 : PE X o2 (tVar j)) (hi2 : PE X a (tO X.kw bs go))
    (ha : ∀ v, assign (.Subscript o c p2) X.env v = (do
      let ov ← holding [v] (eval o X.env)
      let iv ← holding [v, ov] (eval c X.env)
      standAt p2
      holding [v, ov, iv] (setItem ov iv v)
      release [v, ov, iv] []) := by intro _; rfl)
    (ha2 : ∀ v, assign (.Subscript o2 a p3) X.env v = (do
      let ov ← holding [v] (eval o2 X.env)
      let iv ← holding [v, ov] (eval a X.env)
      standAt p3
      holding [v, ov, iv] (setItem ov iv v)
      release [v, ov, iv] []) := by intro _; rfl)
    (hn : (assignEach [.Subscript o c p2, .Subscript o2 a p3] X.env).length = 2 := by rfl) (hst : (assignEach [.Subscript o c p2, .Subscript o2 a p3] X.env).findIdx? (·.1) = none := by rfl)
    (hm1 : (assignEach [.Subscript o c p2, .Subscript o2 a p3] X.env).map (·.2) = assign (.Subscript o c p2) X.env :: (assignEach [.Subscript o2 a p3] X.env).map (·.2) := by rfl)
    (hm2 : (assignEach [.Subscript o2 a p3] X.env).map (·.2) = assign (.Subscript o2 a p3) X.env :: (assignEach [] X.env).map (·.2) := by rfl)
    (hs : swapsWithSole [.Tuple [.Subscript o c p2, .Subscript o2 a p3] kt pt] e pos.line X.env = pure false := by rfl) (hw : swappedStores [.Tuple [.Subscript o c p2, .Subscript o2 a p3] kt pt] e X.env = pure none := by rfl)
    (h1 : (assignEach [.Tuple [.Subscript o c p2, .Subscript o2 a p3] kt pt] X.env).map (·.2) = [assign (.Tuple [.Subscript o c p2, .Subscript o2 a p3] kt pt) X.env] := by rfl) :
    PS X (.Assign [.Tuple [.Subscript o c p2, .Subscript o2 a p3] kt pt] e pos) (tS X.kw bs fr (sSwap i f fo j go)) :=
  (ps_asg he (pg_tup hc (pgs_cons (pg_sub ho hi set_list ha) (pgs_cons (pg_sub ho2 hi2 set_list ha2) pgs_nil hm2) hm1) hn hst) hs hw h1).wk fun D σ H ⟨Hf, Γ, fl, Γ', st, e, q⟩ => by
  unfold sSwap at e
  rw [Option.bind_eq_some_iff] at e
  obtain ⟨⟨d, Γ1⟩, e1, e⟩ := e
  rw [Option.bind_eq_some_iff] at e
  obtain ⟨⟨d1, d2⟩, e2, e⟩ := e
  rw [Option.bind_eq_some_iff] at e
  obtain ⟨Γ2, e3, e⟩ := e
  rw [Option.map_eq_some_iff] at e
  obtain ⟨Γ3, e4, e⟩ := e
  cases e
  refine ⟨Hf, Γ, d, Γ1, st, e1, fun v Hf1 H1 s1 x1 r1 => ?_⟩
  have hd := pairD_some e2
  subst hd
  cases r1 with
  | tup h1 h2 =>
    cases h2 with
    | cons r1 h2 =>
      cases h2 with
      | cons r2 h2 =>
        cases h2
        refine ⟨_, _, rfl, sqT_mono s1.fz h1, rfl, _, _, rfl, g_sub s1 r1 e3 fun Hf2 H2 s2 x2 => ⟨_, _, rfl, g_sub s2 (r2.mono x2) e4 fun Hf3 H3 s3 x3 => ⟨rfl, ?_⟩⟩⟩
        exact q _ _ _ s3 ((x1.f.trans x2).trans x3)
end
/-! ### defs that call themselves: no promise at depth 0 -/
theorem spV_none {K : KW} {fr : Md} {vs : List V} {H : Hp} {Q : VK} (h : spV K fr (fun _ => none) vs H Q E0) : False := by
  obtain ⟨Hf, ds, r, z, rr, e, _⟩ := h
  cases e
theorem spB_none {K : KW} {fr : Md} {vs : List V} {H : Hp} {Q : VK} (h : spB K fr (fun _ _ => none) vs H Q E0) : False := by
  obtain ⟨h, us, Hf, c, ds, r, c', ev, z, n, ch, rr, e, _⟩ := h
  cases e
theorem callOk_none {P : Program} {w : World} {K : PySem.W.Frag} {mg : Str → Option Value} {base : Heap} {k n : Nat} {x : Str} {ks : List Str} {sp : Sp} {f : Addr} (hm : mg x = some (.ref f)) (kp : PySem.W.keepIn K (.ref f) = true) (h : ∀ vs H Q, sp vs H Q E0 → False) : CallOk P w K mg base k x n ks sp :=
  ⟨f, hm, kp, fun A outer s H us ws vs zs Q hg hr e0 r1 r2 l1 l2 q => (h _ _ _ q).elim⟩
end Zd

set_option maxHeartbeats 4000000
/-! repr of data that hold empty dicts (and no list beside them) -/
namespace Zd
open PySem PySem.Spec PyProof.Rows L2 Pd
mutual
def lfD : D → Bool
  | .non => true
  | .bl _ => true
  | .int _ => true
  | .str _ => true
  | .tup ds => lfDs ds
  | .dct [] => true
  | _ => false
def lfDs : List D → Bool
  | [] => true
  | d :: ds => lfD d && lfDs ds
end
section
variable {X : Cx} {pins : List (Addr × Obj)} {σ : L2.St} {H Hf : Hp} {s : Shared}
mutual
theorem lf_reads (I : Inv X pins σ H s) (z : Same Hf H) : ∀ (d : D) (v : V) (u : Value), lfD d = true → Rep X.kw Hf v d → RelV v u → ∃ as, Reads s.heap u (toPy d) as ∧ sysModules ∉ as
  | .non, _, _, _, h, r => by
    cases h; cases r
    rw [toPy]
    exact ⟨_, Reads.none, by simp⟩
  | .bl b, _, _, _, h, r => by
    cases h; cases r
    rw [toPy]
    exact ⟨_, Reads.bool b, by simp⟩
  | .int i, _, _, _, h, r => by
    cases h
    obtain ⟨t, rfl⟩ := r
    rw [toPy]
    exact ⟨_, Reads.int i t, by simp⟩
  | .str x, _, _, _, h, r => by
    cases h
    obtain ⟨t, rfl⟩ := r
    rw [toPy]
    exact ⟨_, Reads.str x t, by simp⟩
  | .tup ds, _, _, e, h, r => by
    cases h with
    | tup h1 h2 =>
      cases r
      rw [lfD] at e
      obtain ⟨its, rv, ⟨o, ho, hc, n, hd⟩, _⟩ := I.tuple (sqT_mono z h1)
      obtain ⟨as, hr, hn⟩ := lf_readss I z ds _ its e h2 rv
      rw [toPy]
      exact ⟨_, Reads.tuple ho hc hd hr, hn⟩
  | .dct [], _, _, _, h, r => by
    cases h with
    | dct h1 h2 =>
      cases r
      cases h2
      obtain ⟨_, hs, vs, kv, o, es, ep, h3, h4, h5, _, h6, _⟩ := dk_of I.hok (z _ _ h1)
      have hv : vs = [] := by cases kv; rfl
      subst hv
      have he : es.toList = [] := List.eq_nil_of_length_eq_zero h6.length
      rw [toPy]
      have q : Reads s.heap (.ref _) (.dict []) _ := Reads.dict (kvs := []) h3 h4.1 h5 (by rw [he]; exact .nil) (by rw [he]; exact .nil)
      refine ⟨_, q, ?_⟩
      simp only [List.append_nil, List.mem_singleton]
      intro hx
      rw [← hx] at hs
      simp at hs
  | .dct (_ :: _), _, _, e, _, _ => by rw [lfD] at e; cases e; all_goals (intros; contradiction)
  | .lst _, _, _, e, _, _ => by rw [lfD] at e; cases e; all_goals (intros; contradiction)
  | .ty _, _, _, e, _, _ => by rw [lfD] at e; cases e; all_goals (intros; contradiction)
  | .ob _, _, _, e, _, _ => by rw [lfD] at e; cases e; all_goals (intros; contradiction)
  | .scr _, _, _, e, _, _ => by rw [lfD] at e; cases e; all_goals (intros; contradiction)
  | .dcn _, _, _, e, _, _ => by rw [lfD] at e; cases e; all_goals (intros; contradiction)
theorem lf_readss (I : Inv X pins σ H s) (z : Same Hf H) : ∀ (ds : List D) (vs : List V) (us : List Value), lfDs ds = true → RepAll X.kw Hf vs ds → Vals vs us → ∃ as, ReadsAll s.heap us (toPys ds) as ∧ sysModules ∉ as
  | [], _, _, _, h, r => by
    cases h; cases r
    rw [toPys]
    exact ⟨_, .nil, by simp⟩
  | d :: ds, _, _, e, h, r => by
    rw [lfDs, Bool.and_eq_true] at e
    cases h with
    | cons h1 h2 =>
      cases r with
      | cons r1 r2 =>
        obtain ⟨as, q1, n1⟩ := lf_reads I z d _ _ e.1 h1 r1
        obtain ⟨bs, q2, n2⟩ := lf_readss I z ds _ _ e.2 h2 r2
        rw [toPys]
        exact ⟨_, .cons q1 q2, by rw [List.mem_append, not_or]; exact ⟨n1, n2⟩⟩
end
end
def dispD : D → Bool
  | .tup _ => true
  | .dct _ => true
  | _ => false
def reprU : List D → Option D
  | [d] => if lfD d && dispD d && ((toPy d).showable && decide ((toPy d).depth ≤ 60) && decide ((toPy d).shown.length ≤ 10000000)) then some (.str (toPy d).shown) else reprD [d]
  | _ => none
section
variable {X : Cx} {bs : Bs}
def rReprL (K : KW) : List V → Hp → VK → Prop := fun xs H Q => ∃ (a : Addr) (d : D) (Hf : Hp), xs = [.ref a] ∧ Same Hf H ∧ Rep K Hf (.ref a) d ∧ lfD d = true ∧ (toPy d).showable = true ∧ (toPy d).depth ≤ 60 ∧ (toPy d).shown.length ≤ sizeLine ∧ Q (.str (toPy d).shown) H
theorem cr_reprL (hgd : X.A.guards = some []) (hu : X.A.units + 64 < cLine) : CallR X (.builtin "repr") (rReprL X.kw) := by
  intro pins s σ H xs us Q I r h
  obtain ⟨a, d, Hf, rfl, z, rp, hl, hs, hdep, hz, q⟩ := h
  rw [Vals.ref1 r]
  obtain ⟨as, rd, hn⟩ := lf_reads I z d _ _ hl rp rfl
  exact repr_of_reads' rd hs (fun _ => hn) hgd (by omega) (fun _ _ e => e) (fun h' u tk hk => ⟨.str _, H, I.kept hk, ⟨_, rfl⟩, q⟩) hz
theorem cz_reprU (hgd : X.A.guards = some []) (hu : X.A.units + 64 < cLine) : CallR X (.builtin "repr") (rZN X.kw bs reprU) := callWk ((cz_repr (bs := bs) hgd hu).or (cr_reprL hgd hu)) fun xs H Q h => by
  obtain ⟨σ, Hf, Γ, dx, d, st, rx, e, q⟩ := h
  unfold reprU at e
  split at e
  · split at e
    · rename_i d1 hk
      cases e
      obtain ⟨x, rfl, rx1⟩ := rds1 rx
      rw [Bool.and_eq_true, Bool.and_eq_true, Bool.and_eq_true, Bool.and_eq_true, decide_eq_true_eq, decide_eq_true_eq] at hk
      obtain ⟨⟨h1, h2⟩, ⟨h3, h4⟩, h5⟩ := hk
      have fin : ∀ a Hf', x = .ref a → Same Hf' H → Rep X.kw Hf' (.ref a) d1 → rReprL X.kw [x] H Q := fun a Hf' ea z rp => ⟨a, d1, Hf', by rw [ea], z, rp, h1, h3, h4, szL h5, q.rest st (.str _)⟩
      refine .inr ?_
      rcases rx1 with rx1 | ⟨a, rfl, c⟩
      · cases rx1 with
        | tup q1 q2 => exact fin _ Hf rfl st.fz (.tup q1 q2)
        | dct q1 q2 => exact fin _ Hf rfl st.fz (.dct q1 q2)
        | _ => cases h2
      · cases d1 with
        | dct kvs =>
          obtain ⟨ks, c1, c2⟩ := c
          exact fin _ H rfl (Same.refl _) (.dct c1 (c2.mono st.fz))
        | lst kvs => cases h2
        | dcn kvs => cases h2
        | _ => exact c.elim
    · exact .inl ⟨σ, Hf, Γ, _, d, st, rx, e, q⟩
  · cases e
end
/-! ### l == [] -/
def eqLD (d e : D) : Option D := match d, e with
  | .lst ds, .lst [] => some (.bl ds.isEmpty)
  | _, _ => eqD d e
section
variable {X : Cx} {bs : Bs}
theorem op_eqNil (hu : X.A.units + 64 < cLine) : OpR X (compareOp .Eq) (fun x y H Q => ∃ a b xs, x = .ref a ∧ y = .ref b ∧ H a = some (.lst xs) ∧ H b = some (.lst []) ∧ Q (.bl xs.isEmpty) H) := by
  intro pins s σ H x y v u Q I rx ry h
  obtain ⟨a, b, xs, rfl, rfl, ha, hb, q⟩ := h
  cases (show v = Value.ref a from rx)
  cases (show u = Value.ref b from ry)
  obtain ⟨us, r1, p1, _⟩ := I.list (SqL.of ha)
  obtain ⟨ws, r2, p2, _⟩ := I.list (SqL.of hb)
  cases r2
  cases xs with
  | nil =>
    cases r1
    exact SeqAt.eq_listAt (e := fun _ => true) p1.isList p2.isList rfl (by omega) (fun j h1 _ => absurd h1 (by simp)) ⟨.bl true, H, I, rfl, q⟩
  | cons x xs =>
    cases r1
    exact SeqAt.eq_list_lengthsAt p1.isList p2.isList (by simp) (by omega) ⟨.bl false, H, I, rfl, q⟩
theorem oz_eqL (hu : X.A.units + 64 < cLine) : OpR X (compareOp .Eq) (rZ X.kw bs eqLD) := opWk ((oz_eq (bs := bs) hu).or (op_eqNil hu)) fun x y H Q h => by
  obtain ⟨σ, Hf, Γ, dx, dy, d, st, rx, ry, e, q⟩ := h
  unfold eqLD at e
  split at e
  · cases e
    obtain ⟨a, xs, rfl, h1, h2⟩ := rd_lst st.fz rx
    obtain ⟨b, ys, rfl, h3, h4⟩ := rd_lst st.fz ry
    cases h4
    refine .inr ⟨a, b, xs, rfl, rfl, h1, h3, ?_⟩
    have he : ∀ (xs : List V) (ds : List D), RepAll X.kw Hf xs ds → xs.isEmpty = ds.isEmpty := fun xs ds r => by cases r <;> rfl
    rw [he _ _ h2]
    exact q.rest st (.bl _)
  · exact .inl ⟨σ, Hf, Γ, dx, dy, d, st, rx, ry, e, q⟩
end
end Zd

set_option maxHeartbeats 4000000
/-! Reckoning a run: what a run over plain data gives, asked from the end backwards; only the head is looked at. -/
namespace Zd
open PySem PySem.Spec PyProof.Rows L2 Pd
def W {α : Type} (o : Option α) (Q : α → Prop) : Prop := ∃ a, o = some a ∧ Q a
def Wp {α β : Type} (o : Option (α × β)) (Q : α → β → Prop) : Prop := ∃ a b, o = some (a, b) ∧ Q a b
def Br (c : Bool) (A B : Prop) : Prop := (c = true ∧ A) ∨ (c = false ∧ B)
/-- asked ahead -/
def Gd (c A : Prop) : Prop := c ∧ A
theorem Br_t {A B : Prop} : Br true A B = A := by simp [Br]
theorem Br_f {A B : Prop} : Br false A B = B := by simp [Br]
theorem Gd_t {A : Prop} : Gd True A = A := by simp [Gd]
theorem Br.mk {c : Bool} {A B : Prop} (h1 : c = true → A) (h2 : c = false → B) : Br c A B := by cases c <;> simp_all [Br]
theorem Br.d {p : Prop} [Decidable p] {A B : Prop} (h1 : p → A) (h2 : ¬p → B) : Br (decide p) A B := Br.mk (fun h => h1 (of_decide_eq_true h)) fun h => h2 (of_decide_eq_false h)
theorem Br.dn {p : Prop} [Decidable p] {A B : Prop} (h1 : ¬p → A) (h2 : p → B) : Br (!decide p) A B := by
  by_cases h : p
  · simp [h, Br_f, h2 h]
  · simp [h, Br_t, h1 h]
theorem Br.t {c : Bool} {A B : Prop} (h : c = true) (a : A) : Br c A B := .inl ⟨h, a⟩
theorem Br.f {c : Bool} {A B : Prop} (h : c = false) (b : B) : Br c A B := .inr ⟨h, b⟩
theorem Gd.mk {c A : Prop} (h : c) (a : A) : Gd c A := ⟨h, a⟩
/-- the step at the head of a reckoning -/
class Wx {α β : Type} (o : Option (α × β)) (Q : α → β → Prop) (P : outParam Prop) : Prop where
  st : P → Wp o Q
class W1 {α : Type} (o : Option α) (Q : α → Prop) (P : outParam Prop) : Prop where
  st : P → W o Q
section
variable {α β γ : Type} {o : Option α} {Q : α → Prop} {p : Option (α × β)} {R : α → β → Prop}
theorem eqW {r : α} : (o = some r) = W o (fun x => x = r) := propext ⟨fun h => ⟨r, h, rfl⟩, fun ⟨a, h, e⟩ => by rw [h, e]⟩
theorem eqWp {a : α} {b : β} : (p = some (a, b)) = Wp p (fun x y => x = a ∧ y = b) := propext ⟨fun h => ⟨a, b, h, rfl, rfl⟩, fun ⟨_, _, h, e, e'⟩ => by rw [h, e, e']⟩
theorem W_some {a : α} : W (some a) Q = Q a := propext ⟨fun ⟨_, h, q⟩ => by cases h; exact q, fun q => ⟨a, rfl, q⟩⟩
instance xW_some {a : α} : W1 (some a) Q (Q a) := ⟨fun h => Eq.mpr W_some h⟩
theorem Wp_some {a : α} {b : β} : Wp (some (a, b)) R = R a b := propext ⟨fun ⟨_, _, h, q⟩ => by cases h; exact q, fun q => ⟨a, b, rfl, q⟩⟩
instance xWp_some {a : α} {b : β} : Wx (some (a, b)) R (R a b) := ⟨fun h => Eq.mpr Wp_some h⟩
theorem W_no : W (none : Option α) Q = False := propext ⟨fun ⟨_, h, _⟩ => (by cases h), fun h => h.elim⟩
theorem Wp_no : Wp (none : Option (α × β)) R = False := propext ⟨fun ⟨_, _, h, _⟩ => (by cases h), fun h => h.elim⟩
theorem W.to {a : α} (h : o = some a) (q : Q a) : W o Q := ⟨a, h, q⟩
theorem Wp.to {a : α} {b : β} (h : p = some (a, b)) (q : R a b) : Wp p R := ⟨a, b, h, q⟩
theorem W.wk {Q' : α → Prop} (h : W o Q) (w : ∀ a, Q a → Q' a) : W o Q' := by obtain ⟨a, e, q⟩ := h; exact ⟨a, e, w a q⟩
theorem Wp.wk {R' : α → β → Prop} (h : Wp p R) (w : ∀ a b, R a b → R' a b) : Wp p R' := by obtain ⟨a, b, e, q⟩ := h; exact ⟨a, b, e, w a b q⟩
theorem W_bind {f : γ → Option α} {o : Option γ} : W (o.bind f) Q = W o (fun a => W (f a) Q) := by
  cases o with
  | none => exact propext ⟨fun ⟨_, h, _⟩ => (by cases h), fun ⟨_, h, _⟩ => by cases h⟩
  | some a => rw [W_some]; rfl
theorem W_map {f : γ → α} {o : Option γ} : W (o.map f) Q = W o (fun a => Q (f a)) := by
  cases o with
  | none => exact propext ⟨fun ⟨_, h, _⟩ => (by cases h), fun ⟨_, h, _⟩ => by cases h⟩
  | some a => rw [W_some]; exact W_some
theorem Wp_W {p : Option (α × β)} : Wp p R = W p (fun x => R x.1 x.2) := propext ⟨fun ⟨a, b, h, q⟩ => ⟨(a, b), h, q⟩, fun ⟨x, h, q⟩ => ⟨x.1, x.2, h, q⟩⟩
theorem W_Wp {p : Option (α × β)} {Q : α × β → Prop} : W p Q = Wp p (fun a b => Q (a, b)) := propext ⟨fun ⟨x, h, q⟩ => ⟨x.1, x.2, h, q⟩, fun ⟨a, b, h, q⟩ => ⟨(a, b), h, q⟩⟩
theorem W_guard {c : Prop} [Decidable c] : W (if c then o else none) Q = Gd c (W o Q) := by
  by_cases h : c
  · rw [if_pos h]; simp [Gd, h]
  · rw [if_neg h]; exact propext ⟨fun ⟨_, h, _⟩ => (by cases h), fun h' => absurd h'.1 h⟩
theorem Wp_guard {c : Prop} [Decidable c] : Wp (if c then p else none) R = Gd c (Wp p R) := by rw [Wp_W, Wp_W, W_guard]
end
/-! ### lists written out -/
section
variable {α β : Type} {f : α → β} {a b : α} {l m : List α} {i : Nat}
theorem nmap_c : List.map f (a :: l) = f a :: List.map f l := rfl
theorem nmap_n : List.map f [] = [] := rfl
theorem napp_c : (a :: l) ++ m = a :: (l ++ m) := rfl
theorem napp_n : [] ++ m = m := rfl
theorem nset_s : (a :: l).set (i + 1) b = a :: l.set i b := rfl
theorem nset_0 : (a :: l).set 0 b = b :: l := rfl
theorem nget_s : (a :: l)[i + 1]? = l[i]? := rfl
theorem nget_0 : (a :: l)[0]? = some a := rfl
theorem nrep_s : List.replicate (i + 1) a = a :: List.replicate i a := rfl
theorem nrep_0 : List.replicate 0 a = [] := rfl
theorem nget_D : (some a).getD b = a := rfl
end
/-! ### slots -/
def slV (Γ : Gm) (i : Nat) : Option D := match Γ[i]? with
  | some (.val d) => some d
  | _ => none
def slG (Γ : Gm) (i : Nat) : Option D := Γ[i]?.bind Sl.get
def slO (Γ : Gm) (i : Nat) : Option D := match Γ[i]? with
  | some (.own d) => some d
  | _ => none
section
variable {s : Sl} {d e : D} {Γ : Gm} {i : Nat}
theorem slV_s : slV (s :: Γ) (i + 1) = slV Γ i := rfl
theorem slV_0 : slV (.val d :: Γ) 0 = some d := rfl
theorem slG_s : slG (s :: Γ) (i + 1) = slG Γ i := rfl
theorem slG_v : slG (.val d :: Γ) 0 = some d := rfl
theorem slG_o : slG (.own d :: Γ) 0 = some d := rfl
theorem slG_b : slG (.byr d :: Γ) 0 = some d := rfl
theorem slO_s : slO (s :: Γ) (i + 1) = slO Γ i := rfl
theorem slO_0 : slO (.own d :: Γ) 0 = some d := rfl
theorem muD_s : muD (s :: Γ) (i + 1) = muD Γ i := rfl
theorem muD_o : muD (.own d :: Γ) 0 = some d := rfl
theorem muD_b : muD (.byr d :: Γ) 0 = some d := rfl
theorem putS_s : putS (s :: Γ) (i + 1) d = s :: putS Γ i d := by
  rw [putS]
  show (match Γ[i]? with | some (.own _) => (s :: Γ).set (i + 1) (.own d) | some (.byr _) => (s :: Γ).set (i + 1) (.byr d) | _ => s :: Γ) = _
  unfold putS
  generalize Γ[i]? = z
  cases z with
  | none => rfl
  | some x => cases x <;> rfl
theorem putS_o : putS (.own e :: Γ) 0 d = .own d :: Γ := rfl
theorem putS_b : putS (.byr e :: Γ) 0 d = .byr d :: Γ := rfl
theorem frzS_s : frzS (i + 1) (s :: Γ) = s :: frzS i Γ := by
  rw [frzS]
  show (match Γ[i]? with | some (.own d) => (s :: Γ).set (i + 1) (.val d) | _ => s :: Γ) = _
  unfold frzS
  generalize Γ[i]? = z
  cases z with
  | none => rfl
  | some x => cases x <;> rfl
theorem frzS_o : frzS 0 (.own d :: Γ) = .val d :: Γ := rfl
theorem frzS_v : frzS 0 (.val d :: Γ) = .val d :: Γ := rfl
theorem frzS_n : frzS 0 (.no :: Γ) = .no :: Γ := rfl
theorem frzS_b : frzS 0 (.byr d :: Γ) = .byr d :: Γ := rfl
theorem getD_s : ((s :: Γ)[i + 1]?).getD .no = (Γ[i]?).getD .no := rfl
theorem getD_0 : ((s :: Γ)[0]?).getD .no = s := rfl
end
section
variable {Γ : Gm} {Q : D → Gm → Prop} {QO : Ov → Gm → Prop} {QB : Bool → Gm → Prop} {QL : List D → Gm → Prop} {QV : List Ov → Gm → Prop} {QP : Option Int → Gm → Prop} {QD : D → Prop} {i : Nat} {d : D} {f g h : Ex} {a b c : Ox} {t u : Tx} {fs gs : Exs} {os : Oxs} {r r' : D → D → Option D} {r1 : D → Option D} {rn : List D → Option D} {is : List Nat} {tg : Tg}
theorem w_C : Wp (eC d Γ) Q = Q d Γ := Wp_some
instance xw_C : Wx (eC d Γ) Q (Q d Γ) := ⟨fun h => Eq.mpr w_C h⟩
theorem w_V : Wp (eV i Γ) Q = W (slV Γ i) fun d => Q d Γ := by
  unfold eV slV
  generalize Γ[i]? = z
  cases z with
  | none => rw [W_no, Wp_no]
  | some x => cases x <;> first | (rw [W_no, Wp_no]; done) | (rw [W_some, Wp_some])
instance xw_V : Wx (eV i Γ) Q (W (slV Γ i) fun d => Q d Γ) := ⟨fun h => Eq.mpr w_V h⟩
theorem w_oE : Wp (oE f Γ) QO = Wp (f Γ) fun d Γ => QO (.v d) Γ := by rw [Wp_W, Wp_W]; exact W_map
instance xw_oE : Wx (oE f Γ) QO (Wp (f Γ) fun d Γ => QO (.v d) Γ) := ⟨fun h => Eq.mpr w_oE h⟩
theorem w_oV : Wp (oV i Γ) QO = W (slG Γ i) fun _ => QO (.s i) Γ := by rw [Wp_W]; exact W_map
instance xw_oV : Wx (oV i Γ) QO (W (slG Γ i) fun _ => QO (.s i) Γ) := ⟨fun h => Eq.mpr w_oV h⟩
theorem w_gv {x : D} : W (Ov.get Γ (.v x)) QD = QD x := W_some
instance xw_gv {x : D} : W1 (Ov.get Γ (.v x)) QD (QD x) := ⟨fun h => Eq.mpr w_gv h⟩
theorem w_gs : W (Ov.get Γ (.s i)) QD = W (slG Γ i) QD := rfl
instance xw_gs : W1 (Ov.get Γ (.s i)) QD (W (slG Γ i) QD) := ⟨fun h => Eq.mpr w_gs h⟩
theorem w_osN : Wp (osN Γ) QV = QV [] Γ := Wp_some
instance xw_osN : Wx (osN Γ) QV (QV [] Γ) := ⟨fun h => Eq.mpr w_osN h⟩
theorem w_osC : Wp (osC a os Γ) QV = Wp (a Γ) fun x Γ => Wp (os Γ) fun xs Γ => QV (x :: xs) Γ := by
  rw [Wp_W, Wp_W]
  unfold osC
  rw [W_bind]
  congr; funext x
  rw [W_map, Wp_W]
instance xw_osC : Wx (osC a os Γ) QV (Wp (a Γ) fun x Γ => Wp (os Γ) fun xs Γ => QV (x :: xs) Γ) := ⟨fun h => Eq.mpr w_osC h⟩
theorem w_vsN : Wp (vsN Γ) QL = QL [] Γ := Wp_some
instance xw_vsN : Wx (vsN Γ) QL (QL [] Γ) := ⟨fun h => Eq.mpr w_vsN h⟩
theorem w_vsC : Wp (vsC f fs Γ) QL = Wp (f Γ) fun x Γ => Wp (fs Γ) fun xs Γ => QL (x :: xs) Γ := by
  rw [Wp_W, Wp_W]
  unfold vsC
  rw [W_bind]
  congr; funext x
  rw [W_map, Wp_W]
instance xw_vsC : Wx (vsC f fs Γ) QL (Wp (f Γ) fun x Γ => Wp (fs Γ) fun xs Γ => QL (x :: xs) Γ) := ⟨fun h => Eq.mpr w_vsC h⟩
theorem w_op2 : Wp (eOp2 r a b Γ) Q = Wp (a Γ) fun x Γ => Wp (b Γ) fun y Γ => W (x.get Γ) fun x => W (y.get Γ) fun y => W (r x y) fun d => Q d Γ := by
  rw [Wp_W, Wp_W]
  unfold eOp2
  rw [W_bind]
  congr; funext p
  rw [W_bind, Wp_W]
  congr; funext q
  rw [W_bind]
  congr; funext x
  rw [W_bind]
  congr; funext y
  rw [W_map]
instance xw_op2 : Wx (eOp2 r a b Γ) Q (Wp (a Γ) fun x Γ => Wp (b Γ) fun y Γ => W (x.get Γ) fun x => W (y.get Γ) fun y => W (r x y) fun d => Q d Γ) := ⟨fun h => Eq.mpr w_op2 h⟩
theorem w_op1 : Wp (eOp1 r1 a Γ) Q = Wp (a Γ) fun x Γ => W (x.get Γ) fun x => W (r1 x) fun d => Q d Γ := by
  rw [Wp_W, Wp_W]
  unfold eOp1
  rw [W_bind]
  congr; funext p
  rw [W_bind]
  congr; funext x
  rw [W_map]
instance xw_op1 : Wx (eOp1 r1 a Γ) Q (Wp (a Γ) fun x Γ => W (x.get Γ) fun x => W (r1 x) fun d => Q d Γ) := ⟨fun h => Eq.mpr w_op1 h⟩
theorem w_fn : Wp (eFn rn os Γ) Q = Wp (os Γ) fun xs Γ => W (ovs Γ xs) fun ds => W (rn ds) fun d => Q d Γ := by
  rw [Wp_W, Wp_W]
  unfold eFn
  rw [W_bind]
  congr; funext p
  rw [W_bind]
  congr; funext x
  rw [W_map]
instance xw_fn : Wx (eFn rn os Γ) Q (Wp (os Γ) fun xs Γ => W (ovs Γ xs) fun ds => W (rn ds) fun d => Q d Γ) := ⟨fun h => Eq.mpr w_fn h⟩
theorem w_ovn {QD : List D → Prop} : W (ovs Γ []) QD = QD [] := W_some
instance xw_ovn {QD : List D → Prop} : W1 (ovs Γ []) QD (QD []) := ⟨fun h => Eq.mpr w_ovn h⟩
theorem w_ovc {QD : List D → Prop} {o : Ov} {l : List Ov} : W (ovs Γ (o :: l)) QD = W (o.get Γ) fun x => W (ovs Γ l) fun xs => QD (x :: xs) := by
  rw [ovs, W_bind]
  congr; funext x
  rw [W_map]
instance xw_ovc {QD : List D → Prop} {o : Ov} {l : List Ov} : W1 (ovs Γ (o :: l)) QD (W (o.get Γ) fun x => W (ovs Γ l) fun xs => QD (x :: xs)) := ⟨fun h => Eq.mpr w_ovc h⟩
theorem w_tup : Wp (eTup fs Γ) Q = Wp (fs Γ) fun ds Γ => Q (.tup ds) Γ := by rw [Wp_W, Wp_W]; exact W_map
instance xw_tup : Wx (eTup fs Γ) Q (Wp (fs Γ) fun ds Γ => Q (.tup ds) Γ) := ⟨fun h => Eq.mpr w_tup h⟩
theorem w_lst : Wp (eLst fs Γ) Q = Wp (fs Γ) fun ds Γ => Q (.lst ds) Γ := by rw [Wp_W, Wp_W]; exact W_map
instance xw_lst : Wx (eLst fs Γ) Q (Wp (fs Γ) fun ds Γ => Q (.lst ds) Γ) := ⟨fun h => Eq.mpr w_lst h⟩
theorem w_xB : Wp (xB f Γ) QB = Wp (f Γ) fun d Γ => W (toB d) fun c => QB c Γ := by
  rw [Wp_W, Wp_W]
  unfold xB
  rw [W_bind]
  congr; funext p
  rw [W_map]
instance xw_xB : Wx (xB f Γ) QB (Wp (f Γ) fun d Γ => W (toB d) fun c => QB c Γ) := ⟨fun h => Eq.mpr w_xB h⟩
theorem w_xNot : Wp (xNot t Γ) QB = Wp (t Γ) fun c Γ => QB (!c) Γ := by rw [Wp_W, Wp_W]; exact W_map
instance xw_xNot : Wx (xNot t Γ) QB (Wp (t Γ) fun c Γ => QB (!c) Γ) := ⟨fun h => Eq.mpr w_xNot h⟩
theorem br_ite {α β : Type} {c : Bool} {x y : Option (α × β)} {R : α × β → Prop} : W (if c = true then x else y) R = Br c (W x R) (W y R) := by
  cases c
  · rw [Br_f]; rfl
  · rw [Br_t]; rfl
theorem w_xAnd : Wp (xAnd t u Γ) QB = Wp (t Γ) fun c Γ => Br c (Wp (u Γ) QB) (QB false Γ) := by
  rw [Wp_W, Wp_W]
  unfold xAnd
  rw [W_bind]
  congr; funext p
  rw [br_ite, Wp_W, W_some]
instance xw_xAnd : Wx (xAnd t u Γ) QB (Wp (t Γ) fun c Γ => Br c (Wp (u Γ) QB) (QB false Γ)) := ⟨fun h => Eq.mpr w_xAnd h⟩
theorem w_xOr : Wp (xOr t u Γ) QB = Wp (t Γ) fun c Γ => Br c (QB true Γ) (Wp (u Γ) QB) := by
  rw [Wp_W, Wp_W]
  unfold xOr
  rw [W_bind]
  congr; funext p
  rw [br_ite, Wp_W, W_some]
instance xw_xOr : Wx (xOr t u Γ) QB (Wp (t Γ) fun c Γ => Br c (QB true Γ) (Wp (u Γ) QB)) := ⟨fun h => Eq.mpr w_xOr h⟩
theorem w_eAnd : Wp (eAnd f g Γ) Q = Wp (xB f Γ) fun c Γ => Br c (Wp (g Γ) Q) (Q (.bl false) Γ) := by
  rw [Wp_W, Wp_W]
  unfold eAnd
  rw [W_bind]
  congr; funext p
  rw [br_ite, Wp_W, W_some]
instance xw_eAnd : Wx (eAnd f g Γ) Q (Wp (xB f Γ) fun c Γ => Br c (Wp (g Γ) Q) (Q (.bl false) Γ)) := ⟨fun h => Eq.mpr w_eAnd h⟩
theorem w_eOr : Wp (eOr f g Γ) Q = Wp (xB f Γ) fun c Γ => Br c (Q (.bl true) Γ) (Wp (g Γ) Q) := by
  rw [Wp_W, Wp_W]
  unfold eOr
  rw [W_bind]
  congr; funext p
  rw [br_ite, Wp_W, W_some]
instance xw_eOr : Wx (eOr f g Γ) Q (Wp (xB f Γ) fun c Γ => Br c (Q (.bl true) Γ) (Wp (g Γ) Q)) := ⟨fun h => Eq.mpr w_eOr h⟩
theorem w_eNot : Wp (eNot f Γ) Q = Wp (xB f Γ) fun c Γ => Q (.bl (!c)) Γ := by rw [Wp_W, Wp_W]; exact W_map
instance xw_eNot : Wx (eNot f Γ) Q (Wp (xB f Γ) fun c Γ => Q (.bl (!c)) Γ) := ⟨fun h => Eq.mpr w_eNot h⟩
theorem w_eIf : Wp (eIf t f g Γ) Q = Wp (t Γ) fun c Γ => Br c (Wp (f Γ) Q) (Wp (g Γ) Q) := by
  rw [Wp_W, Wp_W]
  unfold eIf
  rw [W_bind]
  congr; funext p
  rw [br_ite, Wp_W, Wp_W]
instance xw_eIf : Wx (eIf t f g Γ) Q (Wp (t Γ) fun c Γ => Br c (Wp (f Γ) Q) (Wp (g Γ) Q)) := ⟨fun h => Eq.mpr w_eIf h⟩
theorem w_chain : Wp (eChain r r' a b c Γ) Q = Wp (a Γ) fun x Γ => Wp (b Γ) fun y Γ => W (x.get Γ) fun dx => W (y.get Γ) fun dy => W (r dx dy) fun k => W (toB k) fun k => Br k (Wp (c Γ) fun z Γ => W (y.get Γ) fun dy => W (z.get Γ) fun dz => W (r' dy dz) fun d => Q d Γ) (Q (.bl false) Γ) := by
  rw [Wp_W, Wp_W]
  unfold eChain
  rw [W_bind]
  congr; funext p
  rw [W_bind, Wp_W]
  congr; funext q
  rw [W_bind]
  congr; funext x
  rw [W_bind]
  congr; funext y
  split
  · rename_i e
    rw [e, W_some]
    show _ = W (some true) _
    rw [W_some, Br_t, W_bind, Wp_W]
    congr; funext z
    rw [W_bind]
    congr; funext y'
    rw [W_bind]
    congr; funext w
    rw [W_map]
  · rename_i e
    rw [e, W_some, W_some]
    show _ = W (some false) _
    rw [W_some, Br_f]
  · rename_i n1 n2
    refine propext ⟨fun ⟨_, h, _⟩ => (by cases h), fun ⟨k, h, k', h2, _⟩ => ?_⟩
    cases toB_some h2
    cases k'
    · exact absurd h n2
    · exact absurd h n1
instance xw_chain : Wx (eChain r r' a b c Γ) Q (Wp (a Γ) fun x Γ => Wp (b Γ) fun y Γ => W (x.get Γ) fun dx => W (y.get Γ) fun dy => W (r dx dy) fun k => W (toB k) fun k => Br k (Wp (c Γ) fun z Γ => W (y.get Γ) fun dy => W (z.get Γ) fun dz => W (r' dy dz) fun d => Q d Γ) (Q (.bl false) Γ)) := ⟨fun h => Eq.mpr w_chain h⟩
theorem w_tru : Wp (xTru a Γ) QB = Wp (a Γ) fun x Γ => W (x.get Γ) fun d => W (truD d) fun c => QB c Γ := by
  rw [Wp_W, Wp_W]
  unfold xTru
  rw [W_bind]
  congr; funext p
  rw [W_bind]
  congr; funext x
  rw [W_map]
instance xw_tru : Wx (xTru a Γ) QB (Wp (a Γ) fun x Γ => W (x.get Γ) fun d => W (truD d) fun c => QB c Γ) := ⟨fun h => Eq.mpr w_tru h⟩
theorem w_isi {k : Cl} : Wp (eIsi k a Γ) Q = Wp (a Γ) fun x Γ => W (x.get Γ) fun d => W (isK k d) fun c => Q (.bl c) Γ := by
  rw [Wp_W, Wp_W]
  unfold eIsi
  rw [W_bind]
  congr; funext p
  rw [W_bind]
  congr; funext x
  rw [W_map]
instance xw_isi {k : Cl} : Wx (eIsi k a Γ) Q (Wp (a Γ) fun x Γ => W (x.get Γ) fun d => W (isK k d) fun c => Q (.bl c) Γ) := ⟨fun h => Eq.mpr w_isi h⟩
theorem w_pN : Wp (pN Γ) QP = QP none Γ := Wp_some
instance xw_pN : Wx (pN Γ) QP (QP none Γ) := ⟨fun h => Eq.mpr w_pN h⟩
theorem w_pS : Wp (pS a Γ) QP = Wp (a Γ) fun x Γ => W (x.get Γ) fun d => W (toI d) fun i => QP (some i) Γ := by
  rw [Wp_W, Wp_W]
  unfold pS
  rw [W_bind]
  congr; funext p
  rw [W_bind]
  congr; funext x
  rw [W_map]
instance xw_pS : Wx (pS a Γ) QP (Wp (a Γ) fun x Γ => W (x.get Γ) fun d => W (toI d) fun i => QP (some i) Γ) := ⟨fun h => Eq.mpr w_pS h⟩
theorem w_sl {rs : Option Int → Option Int → D → Option D} {lo hi : Px} : Wp (eSl rs a lo hi Γ) Q = Wp (a Γ) fun x Γ => Wp (lo Γ) fun l Γ => Wp (hi Γ) fun h Γ => W (x.get Γ) fun x => W (rs l h x) fun d => Q d Γ := by
  rw [Wp_W, Wp_W]
  unfold eSl
  rw [W_bind]
  congr; funext p
  rw [W_bind, Wp_W]
  congr; funext q
  rw [W_bind, Wp_W]
  congr; funext s
  rw [W_bind]
  congr; funext x
  rw [W_map]
instance xw_sl {rs : Option Int → Option Int → D → Option D} {lo hi : Px} : Wx (eSl rs a lo hi Γ) Q (Wp (a Γ) fun x Γ => Wp (lo Γ) fun l Γ => Wp (hi Γ) fun h Γ => W (x.get Γ) fun x => W (rs l h x) fun d => Q d Γ) := ⟨fun h => Eq.mpr w_sl h⟩
theorem w_call {F : List D → Option D} : Wp (eCall F fs Γ) Q = Wp (fs Γ) fun ds Γ => W (F ds) fun d => Q d Γ := by
  rw [Wp_W, Wp_W]
  unfold eCall
  rw [W_bind]
  congr; funext p
  rw [W_map]
instance xw_call {F : List D → Option D} : Wx (eCall F fs Γ) Q (Wp (fs Γ) fun ds Γ => W (F ds) fun d => Q d Γ) := ⟨fun h => Eq.mpr w_call h⟩
theorem w_callK {F : List D → Option D} : Wp (eCallK F fs gs Γ) Q = Wp (fs Γ) fun ds Γ => Wp (gs Γ) fun es Γ => W (F (ds ++ es)) fun d => Q d Γ := by
  rw [Wp_W, Wp_W]
  unfold eCallK
  rw [W_bind]
  congr; funext p
  rw [W_bind, Wp_W]
  congr; funext q
  rw [W_map]
instance xw_callK {F : List D → Option D} : Wx (eCallK F fs gs Γ) Q (Wp (fs Γ) fun ds Γ => Wp (gs Γ) fun es Γ => W (F (ds ++ es)) fun d => Q d Γ) := ⟨fun h => Eq.mpr w_callK h⟩
theorem w_callB {F : D → List D → Option (D × D)} : Wp (eCallB F i fs Γ) Q = W (muD Γ i) fun _ => Wp (fs Γ) fun ds Γ => W (muD Γ i) fun c => Wp (F c ds) fun d c => W (some (putS Γ i c)) fun Γ => Q d Γ := by
  rw [Wp_W]
  unfold eCallB
  rw [W_bind]
  congr; funext p
  rw [W_bind, Wp_W]
  congr; funext q
  rw [W_bind]
  congr; funext c
  rw [W_map, Wp_W]
  congr; funext c
  rw [W_some]
instance xw_callB {F : D → List D → Option (D × D)} : Wx (eCallB F i fs Γ) Q (W (muD Γ i) fun _ => Wp (fs Γ) fun ds Γ => W (muD Γ i) fun c => Wp (F c ds) fun d c => W (some (putS Γ i c)) fun Γ => Q d Γ) := ⟨fun h => Eq.mpr w_callB h⟩
theorem w_callT {F : D → List D → Option (D × D)} : Wp (eCallT F f Γ) Q = Wp (f Γ) fun c Γ => Wp (F c []) fun d _ => Q d Γ := by
  rw [Wp_W, Wp_W]
  unfold eCallT
  rw [W_bind]
  congr; funext p
  rw [W_map, Wp_W]
instance xw_callT {F : D → List D → Option (D × D)} : Wx (eCallT F f Γ) Q (Wp (f Γ) fun c Γ => Wp (F c []) fun d _ => Q d Γ) := ⟨fun h => Eq.mpr w_callT h⟩
theorem w_callL {F : List D → Option D} : Wp (eCallL i F fs (Γ : Gm)) Q = Gd (Γ[i]? = some .fn) (Wp (fs Γ) fun ds Γ => W (F ds) fun d => Q d Γ) := by
  unfold eCallL
  split
  · rename_i e
    rw [w_call]
    simp [Gd, e]
  · rename_i n
    exact propext ⟨fun ⟨_, _, h, _⟩ => (by cases h), fun h => absurd h.1 n⟩
instance xw_callL {F : List D → Option D} : Wx (eCallL i F fs (Γ : Gm)) Q (Gd (Γ[i]? = some .fn) (Wp (fs Γ) fun ds Γ => W (F ds) fun d => Q d Γ)) := ⟨fun h => Eq.mpr w_callL h⟩
theorem w_app : Wp (eApp i f Γ) Q = W (muL Γ i) fun _ => Wp (f Γ) fun x Γ => W (muL Γ i) fun ds => Gd (ds.length < 10000000) (W (some (putS Γ i (.lst (ds ++ [x])))) fun Γ => Q .non Γ) := by
  rw [Wp_W]
  unfold eApp
  rw [W_bind]
  congr; funext p
  rw [W_bind, Wp_W]
  congr; funext q
  rw [W_bind]
  congr; funext c
  rw [W_guard, W_some, W_some]
instance xw_app : Wx (eApp i f Γ) Q (W (muL Γ i) fun _ => Wp (f Γ) fun x Γ => W (muL Γ i) fun ds => Gd (ds.length < 10000000) (W (some (putS Γ i (.lst (ds ++ [x])))) fun Γ => Q .non Γ)) := ⟨fun h => Eq.mpr w_app h⟩
theorem w_muL {QD : List D → Prop} : W (muL Γ i) QD = W (muD Γ i) fun d => W (lstOf d) QD := W_bind
instance xw_muL {QD : List D → Prop} : W1 (muL Γ i) QD (W (muD Γ i) fun d => W (lstOf d) QD) := ⟨fun h => Eq.mpr w_muL h⟩
theorem w_ext : Wp (eExt i a Γ) Q = W (muL Γ i) fun _ => Wp (a Γ) fun x Γ => W (muL Γ i) fun ds => W (x.get Γ) fun e => W (lstOf e) fun es => Gd (ds.length + es.length ≤ 10000000) (W (some (putS Γ i (.lst (ds ++ es)))) fun Γ => Q .non Γ) := by
  rw [Wp_W]
  unfold eExt
  rw [W_bind]
  congr; funext p
  rw [W_bind, Wp_W]
  congr; funext q
  rw [W_bind]
  congr; funext c
  rw [W_bind]
  congr; funext e
  rw [W_bind]
  congr; funext es
  rw [W_guard, W_some, W_some]
instance xw_ext : Wx (eExt i a Γ) Q (W (muL Γ i) fun _ => Wp (a Γ) fun x Γ => W (muL Γ i) fun ds => W (x.get Γ) fun e => W (lstOf e) fun es => Gd (ds.length + es.length ≤ 10000000) (W (some (putS Γ i (.lst (ds ++ es)))) fun Γ => Q .non Γ)) := ⟨fun h => Eq.mpr w_ext h⟩
theorem w_pop : Wp (ePop i Γ) Q = W (muL Γ i) fun ds => W (ds[ds.length - 1]?) fun d => W (some (putS Γ i (.lst ds.dropLast))) fun Γ => Q d Γ := by
  rw [Wp_W]
  unfold ePop
  rw [W_bind]
  congr; funext p
  rw [W_map]
  congr; funext c
  rw [W_some]
instance xw_pop : Wx (ePop i Γ) Q (W (muL Γ i) fun ds => W (ds[ds.length - 1]?) fun d => W (some (putS Γ i (.lst ds.dropLast))) fun Γ => Q d Γ) := ⟨fun h => Eq.mpr w_pop h⟩
theorem w_popAt : Wp (ePopAt i a Γ) Q = W (muL Γ i) fun _ => Wp (a Γ) fun x Γ => W (muL Γ i) fun ds => W (x.get Γ) fun k => W (toI k) fun k => Gd (-1000000000 ≤ k ∧ k ≤ 1000000000) (W (seqIndex? k ds.length) fun j => W (ds[j]?) fun d => W (some (putS Γ i (.lst (ds.eraseIdx j)))) fun Γ => Q d Γ) := by
  rw [Wp_W]
  unfold ePopAt
  rw [W_bind]
  congr; funext p
  rw [W_bind, Wp_W]
  congr; funext q
  rw [W_bind]
  congr; funext c
  rw [W_bind]
  congr; funext e
  rw [W_bind]
  congr; funext k
  rw [W_guard, W_bind]
  congr; funext j
  rw [W_map]
  congr; funext j
  rw [W_some]
instance xw_popAt : Wx (ePopAt i a Γ) Q (W (muL Γ i) fun _ => Wp (a Γ) fun x Γ => W (muL Γ i) fun ds => W (x.get Γ) fun k => W (toI k) fun k => Gd (-1000000000 ≤ k ∧ k ≤ 1000000000) (W (seqIndex? k ds.length) fun j => W (ds[j]?) fun d => W (some (putS Γ i (.lst (ds.eraseIdx j)))) fun Γ => Q d Γ)) := ⟨fun h => Eq.mpr w_popAt h⟩
theorem w_lc {it : Exs} : Wp (eLc it tg t f is Γ) Q = Wp (it Γ) fun ds Γ1 => Gd (ds.length ≤ 10000000) (W (some (wip is Γ1)) fun Γ2 => Wp (lcL tg t f is ds Γ2) fun r Γ3 => W (some (rst is Γ1 Γ3)) fun Γ4 => Q (.lst r) Γ4) := by
  rw [Wp_W, Wp_W]
  unfold eLc
  rw [W_bind]
  congr; funext p
  rw [W_guard, W_map, W_some, Wp_W]
  congr; funext r
  rw [W_some]
instance xw_lc {it : Exs} : Wx (eLc it tg t f is Γ) Q (Wp (it Γ) fun ds Γ1 => Gd (ds.length ≤ 10000000) (W (some (wip is Γ1)) fun Γ2 => Wp (lcL tg t f is ds Γ2) fun r Γ3 => W (some (rst is Γ1 Γ3)) fun Γ4 => Q (.lst r) Γ4)) := ⟨fun h => Eq.mpr w_lc h⟩
theorem w_lc2 {it it1 : Exs} {tg1 : Tg} {t1 : Tx} {is1 : List Nat} : Wp (eLc2 it tg t it1 tg1 t1 f is is1 Γ) Q = Wp (it Γ) fun ds Γ1 => W (some (wip is Γ1)) fun Γ2 => Wp (lcL2 tg t it1 tg1 t1 f is is1 ds Γ2) fun r Γ3 => Gd (r.length ≤ 10000000) (W (some (rst is Γ1 Γ3)) fun Γ4 => Q (.lst r) Γ4) := by
  rw [Wp_W, Wp_W]
  unfold eLc2
  rw [W_bind]
  congr; funext p
  rw [W_bind, W_some, Wp_W]
  congr; funext r
  rw [W_guard, W_some, W_some]
instance xw_lc2 {it it1 : Exs} {tg1 : Tg} {t1 : Tx} {is1 : List Nat} : Wx (eLc2 it tg t it1 tg1 t1 f is is1 Γ) Q (Wp (it Γ) fun ds Γ1 => W (some (wip is Γ1)) fun Γ2 => Wp (lcL2 tg t it1 tg1 t1 f is is1 ds Γ2) fun r Γ3 => Gd (r.length ≤ 10000000) (W (some (rst is Γ1 Γ3)) fun Γ4 => Q (.lst r) Γ4)) := ⟨fun h => Eq.mpr w_lc2 h⟩
theorem w_yes : Wp (xYes Γ) QB = QB true Γ := Wp_some
instance xw_yes : Wx (xYes Γ) QB (QB true Γ) := ⟨fun h => Eq.mpr w_yes h⟩
theorem w_rev : Wp (eRev a Γ) Q = Wp (a Γ) fun x Γ => W (x.get Γ) fun d => W (match d with | .tup ds => some ds | _ => none) fun ds => Q (.tup ds.reverse) Γ := by
  rw [Wp_W, Wp_W]
  unfold eRev
  rw [W_bind]
  congr; funext p
  rw [W_bind]
  congr; funext x
  cases x with
  | tup ds => show W (some _) _ = W (some _) _; rw [W_some, W_some]
  | _ => show W none _ = W none _; rw [W_no, W_no]
instance xw_rev : Wx (eRev a Γ) Q (Wp (a Γ) fun x Γ => W (x.get Γ) fun d => W (match d with | .tup ds => some ds | _ => none) fun ds => Q (.tup ds.reverse) Γ) := ⟨fun h => Eq.mpr w_rev h⟩
/-! iterables -/
theorem w_iSeq : Wp (iSeq f Γ) QL = Wp (f Γ) fun d Γ => W (seqD d) fun ds => QL ds Γ := by
  rw [Wp_W, Wp_W]
  unfold iSeq
  rw [W_bind]
  congr; funext p
  rw [W_map]
instance xw_iSeq : Wx (iSeq f Γ) QL (Wp (f Γ) fun d Γ => W (seqD d) fun ds => QL ds Γ) := ⟨fun h => Eq.mpr w_iSeq h⟩
def rg1 : List D → Option (List D)
  | [.int j] => if -1000000000 ≤ j ∧ j ≤ 1000000000 then some (rngL 0 j.toNat) else none
  | _ => none
def rg2 : List D → Option (List D)
  | [.int i, .int j] => if (-1000000000 ≤ i ∧ i ≤ 1000000000) ∧ (-1000000000 ≤ j ∧ j ≤ 1000000000) then some (rngL i (j - i).toNat) else none
  | _ => none
def rg3 : List D → Option (List D)
  | [.int i, .int j, .int k] => if k = -1 ∧ (-1000000000 ≤ i ∧ i ≤ 1000000000) ∧ (-1000000000 ≤ j ∧ j ≤ 1000000000) then some (rngD i (i - j).toNat) else none
  | _ => none
theorem rg1_eq : iRg1 os Γ = (os Γ).bind fun p => (ovs p.2 p.1).bind fun ds => (rg1 ds).map fun l => (l, p.2) := by
  unfold iRg1 rg1
  congr; funext p
  congr; funext ds
  split
  · rename_i j
    show (if -1000000000 ≤ j ∧ j ≤ 1000000000 then _ else _) = Option.map _ (if -1000000000 ≤ j ∧ j ≤ 1000000000 then _ else _)
    split <;> rfl
  · first
    | rfl
    | (rename_i n
       split
       · exact absurd rfl (n _)
       · rfl)
theorem w_rg1 : Wp (iRg1 os Γ) QL = Wp (os Γ) fun xs Γ => W (ovs Γ xs) fun ds => W (rg1 ds) fun ds => QL ds Γ := by
  rw [Wp_W, Wp_W, rg1_eq, W_bind]
  congr; funext p
  rw [W_bind]
  congr; funext x
  rw [W_map]
instance xw_rg1 : Wx (iRg1 os Γ) QL (Wp (os Γ) fun xs Γ => W (ovs Γ xs) fun ds => W (rg1 ds) fun ds => QL ds Γ) := ⟨fun h => Eq.mpr w_rg1 h⟩
theorem rg2_eq : iRg2 os Γ = (os Γ).bind fun p => (ovs p.2 p.1).bind fun ds => (rg2 ds).map fun l => (l, p.2) := by
  unfold iRg2 rg2
  congr; funext p
  congr; funext ds
  split
  · rename_i i j
    show (if (-1000000000 ≤ i ∧ i ≤ 1000000000) ∧ (-1000000000 ≤ j ∧ j ≤ 1000000000) then _ else _) = Option.map _ (if (-1000000000 ≤ i ∧ i ≤ 1000000000) ∧ (-1000000000 ≤ j ∧ j ≤ 1000000000) then _ else _)
    split <;> rfl
  · first
    | rfl
    | (rename_i n
       split
       · exact absurd rfl (n _ _)
       · rfl)
theorem w_rg2 : Wp (iRg2 os Γ) QL = Wp (os Γ) fun xs Γ => W (ovs Γ xs) fun ds => W (rg2 ds) fun ds => QL ds Γ := by
  rw [Wp_W, Wp_W, rg2_eq, W_bind]
  congr; funext p
  rw [W_bind]
  congr; funext x
  rw [W_map]
instance xw_rg2 : Wx (iRg2 os Γ) QL (Wp (os Γ) fun xs Γ => W (ovs Γ xs) fun ds => W (rg2 ds) fun ds => QL ds Γ) := ⟨fun h => Eq.mpr w_rg2 h⟩
theorem rg3_eq : iRg3 os Γ = (os Γ).bind fun p => (ovs p.2 p.1).bind fun ds => (rg3 ds).map fun l => (l, p.2) := by
  unfold iRg3 rg3
  congr; funext p
  congr; funext ds
  split
  · rename_i i j
    show (if (-1000000000 ≤ i ∧ i ≤ 1000000000) ∧ (-1000000000 ≤ j ∧ j ≤ 1000000000) then _ else _) = Option.map _ (if (-1 : Int) = -1 ∧ (-1000000000 ≤ i ∧ i ≤ 1000000000) ∧ (-1000000000 ≤ j ∧ j ≤ 1000000000) then _ else _)
    by_cases h : (-1000000000 ≤ i ∧ i ≤ 1000000000) ∧ (-1000000000 ≤ j ∧ j ≤ 1000000000)
    · rw [if_pos h, if_pos ⟨rfl, h⟩]; rfl
    · rw [if_neg h, if_neg fun z => h z.2]; rfl
  · first
    | rfl
    | (split
       · rename_i i j k n
         by_cases hk : k = -1
         · subst hk; exact absurd rfl (n i j)
         · rw [if_neg fun z => hk z.1]; rfl
       · rfl)
theorem w_rg3 : Wp (iRg3 os Γ) QL = Wp (os Γ) fun xs Γ => W (ovs Γ xs) fun ds => W (rg3 ds) fun ds => QL ds Γ := by
  rw [Wp_W, Wp_W, rg3_eq, W_bind]
  congr; funext p
  rw [W_bind]
  congr; funext x
  rw [W_map]
instance xw_rg3 : Wx (iRg3 os Γ) QL (Wp (os Γ) fun xs Γ => W (ovs Γ xs) fun ds => W (rg3 ds) fun ds => QL ds Γ) := ⟨fun h => Eq.mpr w_rg3 h⟩
end
section
variable {Γ : Gm} {QF : Fl → Gm → Prop} {QG : Gm → Prop} {QQ : List (Nat × Sl) → Gm → Prop} {QL : List D → Gm → Prop} {i : Nat} {d : D} {f : Ex} {a : Ox} {t : Tx} {s s' : Sx} {tg : Tg} {tgs : Tgs} {fs : Exs} {q : Qx} {r : D → D → Option D}
theorem w_nil : Wp (sNil Γ) QF = QF .nx Γ := Wp_some
instance xw_nil : Wx (sNil Γ) QF (QF .nx Γ) := ⟨fun h => Eq.mpr w_nil h⟩
theorem w_seq : Wp (sSeq s s' Γ) QF = Wp (s Γ) fun fl Γ => Wp (thenS s' (fl, Γ)) QF := by
  rw [Wp_W, Wp_W]
  unfold sSeq
  rw [W_bind]
  congr; funext p
  rw [Wp_W]
instance xw_seq : Wx (sSeq s s' Γ) QF (Wp (s Γ) fun fl Γ => Wp (thenS s' (fl, Γ)) QF) := ⟨fun h => Eq.mpr w_seq h⟩
theorem w_thN : Wp (thenS s (.nx, Γ)) QF = Wp (s Γ) QF := rfl
instance xw_thN : Wx (thenS s (.nx, Γ)) QF (Wp (s Γ) QF) := ⟨fun h => Eq.mpr w_thN h⟩
theorem w_thR : Wp (thenS s (.rt d, Γ)) QF = QF (.rt d) Γ := Wp_some
instance xw_thR : Wx (thenS s (.rt d, Γ)) QF (QF (.rt d) Γ) := ⟨fun h => Eq.mpr w_thR h⟩
theorem w_thB : Wp (thenS s (.br, Γ)) QF = QF .br Γ := Wp_some
instance xw_thB : Wx (thenS s (.br, Γ)) QF (QF .br Γ) := ⟨fun h => Eq.mpr w_thB h⟩
theorem w_thC : Wp (thenS s (.ct, Γ)) QF = QF .ct Γ := Wp_some
instance xw_thC : Wx (thenS s (.ct, Γ)) QF (QF .ct Γ) := ⟨fun h => Eq.mpr w_thC h⟩
theorem w_sx : Wp (sExpr f Γ) QF = Wp (f Γ) fun _ Γ => QF .nx Γ := by rw [Wp_W, Wp_W]; exact W_map
instance xw_sx : Wx (sExpr f Γ) QF (Wp (f Γ) fun _ Γ => QF .nx Γ) := ⟨fun h => Eq.mpr w_sx h⟩
theorem w_ret : Wp (sRet f Γ) QF = Wp (f Γ) fun d Γ => QF (.rt d) Γ := by rw [Wp_W, Wp_W]; exact W_map
instance xw_ret : Wx (sRet f Γ) QF (Wp (f Γ) fun d Γ => QF (.rt d) Γ) := ⟨fun h => Eq.mpr w_ret h⟩
theorem w_retN : Wp (sRetN Γ) QF = QF (.rt .non) Γ := Wp_some
instance xw_retN : Wx (sRetN Γ) QF (QF (.rt .non) Γ) := ⟨fun h => Eq.mpr w_retN h⟩
theorem w_retO : Wp (sRetO i Γ) QF = W (slO Γ i) fun d => QF (.rt d) Γ := by
  unfold sRetO slO
  generalize Γ[i]? = z
  cases z with
  | none => rw [W_no, Wp_no]
  | some x => cases x <;> first | (rw [W_no, Wp_no]; done) | (rw [W_some, Wp_some])
instance xw_retO : Wx (sRetO i Γ) QF (W (slO Γ i) fun d => QF (.rt d) Γ) := ⟨fun h => Eq.mpr w_retO h⟩
theorem w_sIf : Wp (sIf t s s' Γ) QF = Wp (t Γ) fun c Γ => Br c (Wp (s Γ) QF) (Wp (s' Γ) QF) := by
  rw [Wp_W, Wp_W]
  unfold sIf
  rw [W_bind]
  congr; funext p
  rw [br_ite, Wp_W, Wp_W]
instance xw_sIf : Wx (sIf t s s' Γ) QF (Wp (t Γ) fun c Γ => Br c (Wp (s Γ) QF) (Wp (s' Γ) QF)) := ⟨fun h => Eq.mpr w_sIf h⟩
theorem w_set : Wp (sSet i f Γ) QF = Wp (f Γ) fun d Γ => QF .nx (Γ.set i (.val d)) := by rw [Wp_W, Wp_W]; exact W_map
instance xw_set : Wx (sSet i f Γ) QF (Wp (f Γ) fun d Γ => QF .nx (Γ.set i (.val d))) := ⟨fun h => Eq.mpr w_set h⟩
theorem w_own : Wp (sOwn i f Γ) QF = Wp (f Γ) fun d Γ => QF .nx (Γ.set i (.own d)) := by rw [Wp_W, Wp_W]; exact W_map
instance xw_own : Wx (sOwn i f Γ) QF (Wp (f Γ) fun d Γ => QF .nx (Γ.set i (.own d))) := ⟨fun h => Eq.mpr w_own h⟩
theorem w_asg : Wp (sAsg f tg Γ) QF = Wp (f Γ) fun d Γ => W (tg d Γ) fun Γ => QF .nx Γ := by
  rw [Wp_W, Wp_W]
  unfold sAsg
  rw [W_bind]
  congr; funext p
  rw [W_map]
instance xw_asg : Wx (sAsg f tg Γ) QF (Wp (f Γ) fun d Γ => W (tg d Γ) fun Γ => QF .nx Γ) := ⟨fun h => Eq.mpr w_asg h⟩
theorem w_gN : W (gN i d Γ) QG = QG (Γ.set i (.val d)) := W_some
instance xw_gN : W1 (gN i d Γ) QG (QG (Γ.set i (.val d))) := ⟨fun h => Eq.mpr w_gN h⟩
theorem w_gT {ds : List D} : W (gT tgs (.tup ds) Γ) QG = W (tgs ds Γ) QG := rfl
instance xw_gT {ds : List D} : W1 (gT tgs (.tup ds) Γ) QG (W (tgs ds Γ) QG) := ⟨fun h => Eq.mpr w_gT h⟩
theorem w_gsN : W (gsN [] Γ) QG = QG Γ := W_some
instance xw_gsN : W1 (gsN [] Γ) QG (QG Γ) := ⟨fun h => Eq.mpr w_gsN h⟩
theorem w_gsC {ds : List D} : W (gsC tg tgs (d :: ds) Γ) QG = W (tg d Γ) fun Γ => W (tgs ds Γ) QG := W_bind
instance xw_gsC {ds : List D} : W1 (gsC tg tgs (d :: ds) Γ) QG (W (tg d Γ) fun Γ => W (tgs ds Γ) QG) := ⟨fun h => Eq.mpr w_gsC h⟩
theorem w_aug : Wp (sAug r i a Γ) QF = W (slG Γ i) fun _ => Wp (a Γ) fun y Γ => W (slG Γ i) fun x => W (y.get Γ) fun y => W (r x y) fun d => QF .nx (Γ.set i (.val d)) := by
  rw [Wp_W]
  unfold sAug
  rw [W_bind]
  congr; funext p
  rw [W_bind, Wp_W]
  congr; funext q
  rw [W_bind]
  congr; funext x
  rw [W_bind]
  congr; funext y
  rw [W_map]
instance xw_aug : Wx (sAug r i a Γ) QF (W (slG Γ i) fun _ => Wp (a Γ) fun y Γ => W (slG Γ i) fun x => W (y.get Γ) fun y => W (r x y) fun d => QF .nx (Γ.set i (.val d))) := ⟨fun h => Eq.mpr w_aug h⟩
theorem w_brk : Wp (sBrk Γ) QF = QF .br Γ := Wp_some
instance xw_brk : Wx (sBrk Γ) QF (QF .br Γ) := ⟨fun h => Eq.mpr w_brk h⟩
theorem w_cnt : Wp (sCnt Γ) QF = QF .ct Γ := Wp_some
instance xw_cnt : Wx (sCnt Γ) QF (QF .ct Γ) := ⟨fun h => Eq.mpr w_cnt h⟩
theorem w_frz : Wp (sFrz i s Γ) QF = Wp (s (frzS i Γ)) QF := rfl
instance xw_frz : Wx (sFrz i s Γ) QF (Wp (s (frzS i Γ)) QF) := ⟨fun h => Eq.mpr w_frz h⟩
theorem w_for : Wp (sFor fs tg s Γ) QF = Wp (fs Γ) fun ds Γ => Wp (forL tg s ds Γ) QF := by
  rw [Wp_W, Wp_W]
  unfold sFor
  rw [W_bind]
  congr; funext p
  rw [Wp_W]
instance xw_for : Wx (sFor fs tg s Γ) QF (Wp (fs Γ) fun ds Γ => Wp (forL tg s ds Γ) QF) := ⟨fun h => Eq.mpr w_for h⟩
theorem w_setIx : Wp (sSetIx i f a Γ) QF = Wp (f Γ) fun x Γ => W (muL Γ i) fun _ => Wp (a Γ) fun k Γ => W (k.get Γ) fun k => W (toI k) fun k => W (muL Γ i) fun ds => W (ixN ds.length k) fun j => QF .nx (putS Γ i (.lst (ds.set j x))) := by
  rw [Wp_W, Wp_W]
  unfold sSetIx
  rw [W_bind]
  congr; funext p
  rw [W_bind]
  congr; funext x
  rw [W_bind, Wp_W]
  congr; funext q
  rw [W_bind]
  congr; funext y
  rw [W_bind]
  congr; funext k
  rw [W_bind]
  congr; funext ds
  rw [W_map]
instance xw_setIx : Wx (sSetIx i f a Γ) QF (Wp (f Γ) fun x Γ => W (muL Γ i) fun _ => Wp (a Γ) fun k Γ => W (k.get Γ) fun k => W (toI k) fun k => W (muL Γ i) fun ds => W (ixN ds.length k) fun j => QF .nx (putS Γ i (.lst (ds.set j x)))) := ⟨fun h => Eq.mpr w_setIx h⟩
theorem w_par : Wp (sPar q Γ) QF = Wp (q Γ) fun ps Γ => QF .nx (setAll Γ ps) := by rw [Wp_W, Wp_W]; exact W_map
instance xw_par : Wx (sPar q Γ) QF (Wp (q Γ) fun ps Γ => QF .nx (setAll Γ ps)) := ⟨fun h => Eq.mpr w_par h⟩
theorem w_qN : Wp (qN Γ) QQ = QQ [] Γ := Wp_some
instance xw_qN : Wx (qN Γ) QQ (QQ [] Γ) := ⟨fun h => Eq.mpr w_qN h⟩
theorem w_qV : Wp (qV i f q Γ) QQ = Wp (f Γ) fun d Γ => Wp (q Γ) fun ps Γ => QQ ((i, .val d) :: ps) Γ := by
  rw [Wp_W, Wp_W]
  unfold qV
  rw [W_bind]
  congr; funext p
  rw [W_map, Wp_W]
instance xw_qV : Wx (qV i f q Γ) QQ (Wp (f Γ) fun d Γ => Wp (q Γ) fun ps Γ => QQ ((i, .val d) :: ps) Γ) := ⟨fun h => Eq.mpr w_qV h⟩
theorem w_qO : Wp (qO i f q Γ) QQ = Wp (f Γ) fun d Γ => Wp (q Γ) fun ps Γ => QQ ((i, .own d) :: ps) Γ := by
  rw [Wp_W, Wp_W]
  unfold qO
  rw [W_bind]
  congr; funext p
  rw [W_map, Wp_W]
instance xw_qO : Wx (qO i f q Γ) QQ (Wp (f Γ) fun d Γ => Wp (q Γ) fun ps Γ => QQ ((i, .own d) :: ps) Γ) := ⟨fun h => Eq.mpr w_qO h⟩
def zip2 : List D → Option (List D)
  | [d1, d2] => (seqD d1).bind fun s1 => (seqD d2).map fun s2 => zipL2 s1 s2
  | _ => none
def zip3 : List D → Option (List D)
  | [d1, d2, d3] => (seqD d1).bind fun s1 => (seqD d2).bind fun s2 => (seqD d3).map fun s3 => zipL3 s1 s2 s3
  | _ => none
theorem zip2_eq : iZip2 fs Γ = (fs Γ).bind fun p => (zip2 p.1).map fun l => (l, p.2) := by
  unfold iZip2 zip2
  congr; funext p
  generalize p.1 = l
  split
  · rename_i d1 d2
    show _ = Option.map _ ((seqD d1).bind _)
    cases seqD d1 with
    | none => rfl
    | some s1 =>
      show (seqD d2).bind _ = _
      cases seqD d2 with
      | none => rfl
      | some s2 => rfl
  · first
    | rfl
    | (rename_i n
       split
       · exact absurd rfl (n _ _)
       · rfl)
theorem w_zip2 : Wp (iZip2 fs Γ) QL = Wp (fs Γ) fun ds Γ => W (zip2 ds) fun l => QL l Γ := by
  rw [Wp_W, Wp_W, zip2_eq, W_bind]
  congr; funext p
  rw [W_map]
instance xw_zip2 : Wx (iZip2 fs Γ) QL (Wp (fs Γ) fun ds Γ => W (zip2 ds) fun l => QL l Γ) := ⟨fun h => Eq.mpr w_zip2 h⟩
theorem zip3_eq : iZip3 fs Γ = (fs Γ).bind fun p => (zip3 p.1).map fun l => (l, p.2) := by
  unfold iZip3 zip3
  congr; funext p
  generalize p.1 = l
  split
  · rename_i d1 d2 d3
    show _ = Option.map _ ((seqD d1).bind _)
    cases seqD d1 with
    | none => rfl
    | some s1 =>
      show (seqD d2).bind _ = _
      cases seqD d2 with
      | none => rfl
      | some s2 => 
        show (seqD d3).bind _ = Option.map _ ((seqD d3).map _)
        cases seqD d3 with
        | none => rfl
        | some s3 => rfl
  · first
    | rfl
    | (rename_i n
       split
       · exact absurd rfl (n _ _ _)
       · rfl)
theorem w_zip3 : Wp (iZip3 fs Γ) QL = Wp (fs Γ) fun ds Γ => W (zip3 ds) fun l => QL l Γ := by
  rw [Wp_W, Wp_W, zip3_eq, W_bind]
  congr; funext p
  rw [W_map]
instance xw_zip3 : Wx (iZip3 fs Γ) QL (Wp (fs Γ) fun ds Γ => W (zip3 ds) fun l => QL l Γ) := ⟨fun h => Eq.mpr w_zip3 h⟩
end
/-! guarded leaves -/
section
variable {i j : Int} {QD : D → Prop} {QL : List D → Prop} {xs ys : List D}
theorem w_mul : W (mulD (.int i) (.int j)) QD = Gd ((smI i || smI j) = true) (QD (.int (i * j))) := by unfold mulD; rw [W_guard, W_some]
instance xw_mul : W1 (mulD (.int i) (.int j)) QD (Gd ((smI i || smI j) = true) (QD (.int (i * j)))) := ⟨fun h => Eq.mpr w_mul h⟩
theorem w_div : W (divD (.int i) (.int j)) QD = Gd (0 < j ∧ j < 1073741824) (QD (.int (i / j))) := by unfold divD; rw [W_guard, W_some]
instance xw_div : W1 (divD (.int i) (.int j)) QD (Gd (0 < j ∧ j < 1073741824) (QD (.int (i / j)))) := ⟨fun h => Eq.mpr w_div h⟩
theorem w_mod : W (modD (.int i) (.int j)) QD = Gd (0 < j) (QD (.int (i % j))) := by unfold modD; rw [W_guard, W_some]
instance xw_mod : W1 (modD (.int i) (.int j)) QD (Gd (0 < j) (QD (.int (i % j)))) := ⟨fun h => Eq.mpr w_mod h⟩
theorem w_pow : W (powD (.int i) (.int j)) QD = Gd (0 ≤ j ∧ j ≤ 1000000 ∧ smI i = true) (QD (.int (i ^ j.toNat))) := by unfold powD; rw [W_guard, W_some]
instance xw_pow : W1 (powD (.int i) (.int j)) QD (Gd (0 ≤ j ∧ j ≤ 1000000 ∧ smI i = true) (QD (.int (i ^ j.toNat)))) := ⟨fun h => Eq.mpr w_pow h⟩
theorem w_addL : W (addD (.lst xs) (.lst ys)) QD = Gd (xs.length + ys.length ≤ 10000000) (QD (.lst (xs ++ ys))) := by unfold addD; rw [W_guard, W_some]
instance xw_addL : W1 (addD (.lst xs) (.lst ys)) QD (Gd (xs.length + ys.length ≤ 10000000) (QD (.lst (xs ++ ys)))) := ⟨fun h => Eq.mpr w_addL h⟩
theorem w_catL : W (catD (.lst xs) (.lst ys)) QD = Gd (xs.length + ys.length ≤ 10000000) (QD (.lst (xs ++ ys))) := by unfold catD; rw [W_guard, W_some]
instance xw_catL : W1 (catD (.lst xs) (.lst ys)) QD (Gd (xs.length + ys.length ≤ 10000000) (QD (.lst (xs ++ ys)))) := ⟨fun h => Eq.mpr w_catL h⟩
theorem w_addT : W (addD (.tup xs) (.tup ys)) QD = Gd (xs.length + ys.length ≤ 10000000) (QD (.tup (xs ++ ys))) := by unfold addD; rw [W_guard, W_some]
instance xw_addT : W1 (addD (.tup xs) (.tup ys)) QD (Gd (xs.length + ys.length ≤ 10000000) (QD (.tup (xs ++ ys)))) := ⟨fun h => Eq.mpr w_addT h⟩
theorem w_mulL : W (mulD (.lst xs) (.int i)) QD = Gd (i ≤ 1000000 ∧ xs.length * i.toNat ≤ 10000000 ∧ -1000000 ≤ i) (QD (.lst (List.replicate i.toNat xs).flatten)) := by unfold mulD; rw [W_guard, W_some]
instance xw_mulL : W1 (mulD (.lst xs) (.int i)) QD (Gd (i ≤ 1000000 ∧ xs.length * i.toNat ≤ 10000000 ∧ -1000000 ≤ i) (QD (.lst (List.replicate i.toNat xs).flatten))) := ⟨fun h => Eq.mpr w_mulL h⟩
theorem w_repL : W (repD (.lst xs) (.int i)) QD = Gd (i ≤ 1000000 ∧ xs.length * i.toNat ≤ 10000000 ∧ -1000000 ≤ i) (QD (.lst (List.replicate i.toNat xs).flatten)) := by unfold repD; rw [W_guard, W_some]
instance xw_repL : W1 (repD (.lst xs) (.int i)) QD (Gd (i ≤ 1000000 ∧ xs.length * i.toNat ≤ 10000000 ∧ -1000000 ≤ i) (QD (.lst (List.replicate i.toNat xs).flatten))) := ⟨fun h => Eq.mpr w_repL h⟩
theorem w_mulT : W (mulD (.tup xs) (.int i)) QD = Gd (xs ≠ [] ∧ 1 ≤ i ∧ i ≤ 1000 ∧ xs.length ≤ 1000) (QD (.tup (List.replicate i.toNat xs).flatten)) := by unfold mulD; rw [W_guard, W_some]
instance xw_mulT : W1 (mulD (.tup xs) (.int i)) QD (Gd (xs ≠ [] ∧ 1 ≤ i ∧ i ≤ 1000 ∧ xs.length ≤ 1000) (QD (.tup (List.replicate i.toNat xs).flatten))) := ⟨fun h => Eq.mpr w_mulT h⟩
theorem w_r1 : W (rg1 [.int j]) QL = Gd (-1000000000 ≤ j ∧ j ≤ 1000000000) (QL (rngL 0 j.toNat)) := by unfold rg1; rw [W_guard, W_some]
instance xw_r1 : W1 (rg1 [.int j]) QL (Gd (-1000000000 ≤ j ∧ j ≤ 1000000000) (QL (rngL 0 j.toNat))) := ⟨fun h => Eq.mpr w_r1 h⟩
theorem w_r2 : W (rg2 [.int i, .int j]) QL = Gd ((-1000000000 ≤ i ∧ i ≤ 1000000000) ∧ (-1000000000 ≤ j ∧ j ≤ 1000000000)) (QL (rngL i (j - i).toNat)) := by unfold rg2; rw [W_guard, W_some]
instance xw_r2 : W1 (rg2 [.int i, .int j]) QL (Gd ((-1000000000 ≤ i ∧ i ≤ 1000000000) ∧ (-1000000000 ≤ j ∧ j ≤ 1000000000)) (QL (rngL i (j - i).toNat))) := ⟨fun h => Eq.mpr w_r2 h⟩
theorem w_r3 : W (rg3 [.int i, .int j, .int (-1)]) QL = Gd ((-1000000000 ≤ i ∧ i ≤ 1000000000) ∧ (-1000000000 ≤ j ∧ j ≤ 1000000000)) (QL (rngD i (i - j).toNat)) := by
  unfold rg3
  rw [W_guard, W_some]
  exact propext ⟨fun h => ⟨h.1.2, h.2⟩, fun h => ⟨⟨rfl, h.1⟩, h.2⟩⟩
instance xw_r3 : W1 (rg3 [.int i, .int j, .int (-1)]) QL (Gd ((-1000000000 ≤ i ∧ i ≤ 1000000000) ∧ (-1000000000 ≤ j ∧ j ≤ 1000000000)) (QL (rngD i (i - j).toNat))) := ⟨fun h => Eq.mpr w_r3 h⟩
end
theorem sm_l {i j : Int} (h : smI i = true) : (smI i || smI j) = true := by rw [h]; rfl
theorem sm_r {i j : Int} (h : smI j = true) : (smI i || smI j) = true := by rw [h, Bool.or_true]
theorem sm_1 {i : Int} (h1 : -18446744073709551616 < i) (h2 : i < 18446744073709551616) : smI i = true := by unfold smI; simp [h1, h2]
theorem sm_lo {i j : Int} (h1 : -18446744073709551616 < i) (h2 : i < 18446744073709551616) : (smI i || smI j) = true := sm_l (sm_1 h1 h2)
theorem sm_ro {i j : Int} (h1 : -18446744073709551616 < j) (h2 : j < 18446744073709551616) : (smI i || smI j) = true := sm_r (sm_1 h1 h2)
theorem nt_of {p : Prop} [Decidable p] (h : ¬p) : (!decide p) = true := by simp [h]
theorem nf_of {p : Prop} [Decidable p] (h : p) : (!decide p) = false := by simp [h]
theorem w_idx {Γ : Gm} {a b : Ox} {Q : D → Gm → Prop} : Wp (eIdx a b Γ) Q = Wp (a Γ) fun x Γ => W (x.get Γ) fun l0 => W (lstOf l0) fun _ => Wp (b Γ) fun y Γ => W (x.get Γ) fun l => W (lstOf l) fun ds => W (intsOf ds) fun ns => W (y.get Γ) fun y => W (toI y) fun y => W (idxI y ns) fun j => Q (.int (j : Nat)) Γ := by
  rw [Wp_W, Wp_W]
  unfold eIdx
  rw [W_bind]
  congr; funext p
  rw [W_bind]
  unfold eIdx.lstOf?
  rw [W_bind]
  congr; funext l0
  congr; funext l1
  rw [W_bind, Wp_W]
  congr; funext q
  rw [W_bind]
  congr; funext l
  rw [W_bind]
  congr; funext ds
  rw [W_bind]
  congr; funext ns
  rw [W_bind]
  congr; funext x
  rw [W_bind]
  congr; funext x
  rw [W_map]
instance xw_idx {Γ : Gm} {a b : Ox} {Q : D → Gm → Prop} : Wx (eIdx a b Γ) Q (Wp (a Γ) fun x Γ => W (x.get Γ) fun l0 => W (lstOf l0) fun _ => Wp (b Γ) fun y Γ => W (x.get Γ) fun l => W (lstOf l) fun ds => W (intsOf ds) fun ns => W (y.get Γ) fun y => W (toI y) fun y => W (idxI y ns) fun j => Q (.int (j : Nat)) Γ) := ⟨fun h => Eq.mpr w_idx h⟩
/-! ### defs -/
section
variable {np n : Nat} {fr : Md} {u : Sx} {ds : List D} {Q : D → Prop} {R : D → D → Prop} {c : D}
theorem w_runV : W (runV np n fr u ds) Q = Gd (ds.length = np) (Wp (u (ds.map Sl.val ++ List.replicate (n - np) .no)) fun fl _ => W (retOf fr fl) Q) := by
  unfold runV
  rw [W_guard, W_bind, Wp_W]
instance xw_runV : W1 (runV np n fr u ds) Q (Gd (ds.length = np) (Wp (u (ds.map Sl.val ++ List.replicate (n - np) .no)) fun fl _ => W (retOf fr fl) Q)) := ⟨fun h => Eq.mpr w_runV h⟩
theorem w_runJ : W (runJ np n fr u ds) Q = Gd (ds.length = np) (Wp (u (ds.map Sl.val ++ (.fn :: List.replicate (n - (np + 1)) .no))) fun fl _ => W (retOf fr fl) Q) := by
  unfold runJ
  rw [W_guard, W_bind, Wp_W]
instance xw_runJ : W1 (runJ np n fr u ds) Q (Gd (ds.length = np) (Wp (u (ds.map Sl.val ++ (.fn :: List.replicate (n - (np + 1)) .no))) fun fl _ => W (retOf fr fl) Q)) := ⟨fun h => Eq.mpr w_runJ h⟩
theorem w_runB : Wp (runB np n fr u c ds) R = Gd (ds.length + 1 = np) (Wp (u (.byr c :: (ds.map Sl.val ++ List.replicate (n - np) .no))) fun fl Γ => W (retOf fr fl) fun d => W (byrOf Γ[0]?) fun c => R d c) := by
  rw [Wp_W]
  unfold runB
  rw [W_guard, W_bind, Wp_W]
  congr; funext p
  rw [W_bind]
  congr; funext d
  rw [W_map]
instance xw_runB : Wx (runB np n fr u c ds) R (Gd (ds.length + 1 = np) (Wp (u (.byr c :: (ds.map Sl.val ++ List.replicate (n - np) .no))) fun fl Γ => W (retOf fr fl) fun d => W (byrOf Γ[0]?) fun c => R d c)) := ⟨fun h => Eq.mpr w_runB h⟩
end
/-! ### loops -/
section
variable {g : Tg} {b : Sx} {Q : Fl → Gm → Prop}
/-- what stands behind one turn of a loop -/
def Nxt (fl : Fl) (A B : Prop) (C : D → Prop) : Prop := match fl with
  | .nx => A
  | .ct => A
  | .br => B
  | .rt d => C d
theorem Nxt.nx {A B : Prop} {C : D → Prop} (h : A) : Nxt .nx A B C := h
theorem Nxt.ct {A B : Prop} {C : D → Prop} (h : A) : Nxt .ct A B C := h
theorem Nxt.br {A B : Prop} {C : D → Prop} (h : B) : Nxt .br A B C := h
theorem Nxt.rt {A B : Prop} {C : D → Prop} {d : D} (h : C d) : Nxt (.rt d) A B C := h
/-- a loop: I k before the k-th -/
theorem for_inv {ds : List D} {Γ : Gm} (I : Nat → Gm → Prop) (h0 : I 0 Γ) (hs : ∀ k d Γ, ds[k]? = some d → I k Γ → W (g d Γ) fun Γ1 => Wp (b Γ1) fun fl Γ2 => Nxt fl (I (k + 1) Γ2) (Q .nx Γ2) fun r => Q (.rt r) Γ2) (he : ∀ Γ, I ds.length Γ → Q .nx Γ) : Wp (forL g b ds Γ) Q := by
  suffices h : ∀ (l : List D) (k : Nat) (Γ : Gm), ds.drop k = l → k + l.length = ds.length → I k Γ → Wp (forL g b l Γ) Q from h ds 0 Γ rfl (by simp) h0
  intro l
  induction l with
  | nil =>
    intro k Γ e hl i
    refine Wp.to rfl (he Γ ?_)
    have : k = ds.length := by simpa using hl
    rw [← this]; exact i
  | cons d l ih =>
    intro k Γ e hl i
    have hd : ds[k]? = some d := by rw [← List.head?_drop, e]; rfl
    obtain ⟨Γ1, e1, fl, Γ2, e2, hf⟩ := hs k d Γ hd i
    have e' : ds.drop (k + 1) = l := by rw [← List.drop_drop, e]; rfl
    have hl' : k + 1 + l.length = ds.length := by rw [List.length_cons] at hl; omega
    rw [Wp_W, forL, e1]
    show W ((b Γ1).bind _) _
    rw [e2]
    rw [← Wp_W]
    cases fl with
    | nx => exact ih (k + 1) Γ2 e' hl' hf
    | ct => exact ih (k + 1) Γ2 e' hl' hf
    | br => exact Wp.to rfl hf
    | rt r => exact Wp.to rfl hf
theorem for_nil {Γ : Gm} : Wp (forL g b [] Γ) Q = Q .nx Γ := Wp_some
instance xfor_nil {Γ : Gm} : Wx (forL g b [] Γ) Q (Q .nx Γ) := ⟨fun h => Eq.mpr for_nil h⟩
def nextF (g : Tg) (b : Sx) (ds : List D) (fl : Fl) (Γ : Gm) : Option (Fl × Gm) := match fl with
  | .nx => forL g b ds Γ
  | .ct => forL g b ds Γ
  | .br => some (.nx, Γ)
  | .rt d => some (.rt d, Γ)
theorem for_cons {Γ : Gm} {d : D} {ds : List D} : Wp (forL g b (d :: ds) Γ) Q = W (g d Γ) fun Γ => Wp (b Γ) fun fl Γ => Wp (nextF g b ds fl Γ) Q := by
  rw [Wp_W, forL, W_bind]
  congr; funext Γ1
  rw [W_bind, Wp_W]
  congr; funext p
  rw [Wp_W]
  rfl
theorem w_nxN {ds : List D} {Γ : Gm} : Wp (nextF g b ds .nx Γ) Q = Wp (forL g b ds Γ) Q := rfl
instance xw_nxN {ds : List D} {Γ : Gm} : Wx (nextF g b ds .nx Γ) Q (Wp (forL g b ds Γ) Q) := ⟨fun h => Eq.mpr w_nxN h⟩
theorem w_nxC {ds : List D} {Γ : Gm} : Wp (nextF g b ds .ct Γ) Q = Wp (forL g b ds Γ) Q := rfl
instance xw_nxC {ds : List D} {Γ : Gm} : Wx (nextF g b ds .ct Γ) Q (Wp (forL g b ds Γ) Q) := ⟨fun h => Eq.mpr w_nxC h⟩
theorem w_nxB {ds : List D} {Γ : Gm} : Wp (nextF g b ds .br Γ) Q = Q .nx Γ := Wp_some
instance xw_nxB {ds : List D} {Γ : Gm} : Wx (nextF g b ds .br Γ) Q (Q .nx Γ) := ⟨fun h => Eq.mpr w_nxB h⟩
theorem w_nxR {ds : List D} {Γ : Gm} {d : D} : Wp (nextF g b ds (.rt d) Γ) Q = Q (.rt d) Γ := Wp_some
instance xw_nxR {ds : List D} {Γ : Gm} {d : D} : Wx (nextF g b ds (.rt d) Γ) Q (Q (.rt d) Γ) := ⟨fun h => Eq.mpr w_nxR h⟩
/-- a comprehension: I k acc before the k-th -/
theorem lc_inv {t : Tx} {f : Ex} {is : List Nat} {ds : List D} {Γ : Gm} {Q : List D → Gm → Prop} (I : Nat → List D → Gm → Prop) (h0 : I 0 [] Γ)
    (hs : ∀ k d acc Γ, ds[k]? = some d → I k acc Γ → W (g d Γ) fun Γ1 => Wp (t Γ1) fun c Γ2 => Br c (Wp (f Γ2) fun x Γ3 => I (k + 1) (acc ++ [x]) (wip is Γ3)) (I (k + 1) acc (wip is Γ2))) (he : ∀ acc Γ, I ds.length acc Γ → Q acc Γ) : Wp (lcL g t f is ds Γ) Q := by
  suffices h : ∀ (l : List D) (k : Nat) (acc : List D) (Γ : Gm), ds.drop k = l → k + l.length = ds.length → I k acc Γ → Wp (lcL g t f is l Γ) (fun r Γ => Q (acc ++ r) Γ) from (h ds 0 [] Γ rfl (by simp) h0)
  intro l
  induction l with
  | nil =>
    intro k acc Γ e hl i
    refine Wp.to rfl ?_
    rw [List.append_nil]
    have : k = ds.length := by simpa using hl
    rw [this] at i
    exact he _ _ i
  | cons d l ih =>
    intro k acc Γ e hl i
    have hd : ds[k]? = some d := by rw [← List.head?_drop, e]; rfl
    have e' : ds.drop (k + 1) = l := by rw [← List.drop_drop, e]; rfl
    have hl' : k + 1 + l.length = ds.length := by rw [List.length_cons] at hl; omega
    obtain ⟨Γ1, e1, c, Γ2, e2, hb⟩ := hs k d acc Γ hd i
    rcases hb with ⟨rfl, x, Γ3, e3, i3⟩ | ⟨rfl, i3⟩
    · obtain ⟨r, y, e4, q⟩ := ih (k + 1) _ _ e' hl' i3
      refine ⟨x :: r, y, ?_, by rw [List.append_assoc] at q; exact q⟩
      rw [lcL, e1]
      show (t Γ1).bind _ = _
      rw [e2]
      show (f Γ2).bind _ = _
      rw [e3]
      show (lcL g t f is l (wip is Γ3)).map _ = _
      rw [e4]
      rfl
    · obtain ⟨r, y, e4, q⟩ := ih (k + 1) _ _ e' hl' i3
      refine ⟨r, y, ?_, q⟩
      rw [lcL, e1]
      show (t Γ1).bind _ = _
      rw [e2]
      exact e4
/-- a plain one -/
theorem lc_map {t : Tx} {f : Ex} {is : List Nat} {ds : List D} {Γ : Gm} {Q : List D → Gm → Prop} (h : D → D) (hs : ∀ d ∈ ds, W (g d Γ) fun Γ1 => Wp (t Γ1) fun c Γ2 => c = true ∧ Wp (f Γ2) fun x Γ3 => x = h d ∧ wip is Γ3 = Γ) (he : Q (ds.map h) Γ) : Wp (lcL g t f is ds Γ) Q := by
  refine lc_inv (fun k acc Γ' => acc = (ds.take k).map h ∧ Γ' = Γ) ⟨rfl, rfl⟩ ?_ ?_
  · rintro k d acc _ hd ⟨rfl, rfl⟩
    obtain ⟨Γ1, e1, c, Γ2, e2, hc, x, Γ3, e3, hx, hw⟩ := hs d (List.mem_of_getElem? hd)
    refine ⟨Γ1, e1, c, Γ2, e2, .inl ⟨hc, x, Γ3, e3, ?_, hw⟩⟩
    rw [List.take_succ, hd, hx, List.map_append]
    rfl
  · rintro acc _ ⟨rfl, rfl⟩
    rw [List.take_length]
    exact he
theorem lc_filter {t : Tx} {f : Ex} {is : List Nat} {ds : List D} {Γ : Gm} {Q : List D → Gm → Prop} (k : D → Bool) (h : D → D) (hs : ∀ d ∈ ds, W (g d Γ) fun Γ1 => Wp (t Γ1) fun c Γ2 => c = k d ∧ wip is Γ2 = Γ ∧ (c = true → Wp (f Γ2) fun x Γ3 => x = h d ∧ wip is Γ3 = Γ)) (he : Q ((ds.filter k).map h) Γ) : Wp (lcL g t f is ds Γ) Q := by
  refine lc_inv (fun n acc Γ' => acc = ((ds.take n).filter k).map h ∧ Γ' = Γ) ⟨rfl, rfl⟩ ?_ ?_
  · rintro n d acc _ hd ⟨rfl, rfl⟩
    obtain ⟨Γ1, e1, c, Γ2, e2, hc, hw, hf⟩ := hs d (List.mem_of_getElem? hd)
    refine ⟨Γ1, e1, c, Γ2, e2, ?_⟩
    cases c with
    | true =>
      obtain ⟨x, Γ3, e3, hx, hw⟩ := hf rfl
      refine .inl ⟨rfl, x, Γ3, e3, ?_, hw⟩
      rw [List.take_succ, hd, hx, List.filter_append, List.map_append]
      simp [← hc]
    | false =>
      refine .inr ⟨rfl, ?_, hw⟩
      rw [List.take_succ, hd, List.filter_append]
      simp [← hc]
  · rintro acc _ ⟨rfl, rfl⟩
    rw [List.take_length]
    exact he
end
end Zd

set_option maxHeartbeats 4000000
/-! Plain data: what may be compared and shown; lists by index; decks. -/
namespace Zd
open PySem PySem.Spec PyProof.Rows L2 Pd
/-- d is plain, at most n deep, and its text has at most m signs -/
structure Okd (n m : Nat) (d : D) : Prop where
  pl : (toPy d).plain = true
  dp : (toPy d).depth ≤ n
  sh : (toPy d).showable = true
  ln : (toPy d).shown.length ≤ m
theorem Okd.mono {n m n' m' : Nat} {d : D} (h : Okd n m d) (h1 : n ≤ n') (h2 : m ≤ m') : Okd n' m' d := ⟨h.pl, Nat.le_trans h.dp h1, h.sh, Nat.le_trans h.ln h2⟩
theorem okd_int {i : Int} (h1 : -1000000000000 < i) (h2 : i < 1000000000000) : Okd 0 13 (.int i) := by
  have h : i.natAbs < 10 ^ 12 := by omega
  have hl : i.natAbs.log2 < 1920 := by
    by_cases h0 : i.natAbs = 0
    · rw [h0]; decide
    · rw [Nat.log2_lt h0]
      exact Nat.lt_of_lt_of_le h (by decide +kernel)
  refine ⟨by rw [toPy, PyData.plain], by rw [toPy, PyData.depth]; exact Nat.le_refl _, by rw [toPy, PyData.showable]; exact decide_eq_true hl, ?_⟩
  rw [toPy]
  show (Str.ofString (toString i)).length ≤ 13
  rw [PySem.ofString_length]
  exact int_text_length_le10 (k := 12) (by decide) h
theorem okd_bl (b : Bool) : Okd 0 13 (.bl b) := by
  refine ⟨by rw [toPy, PyData.plain], by rw [toPy, PyData.depth]; exact Nat.le_refl _, by rw [toPy, PyData.showable], ?_⟩
  rw [toPy]
  cases b <;> decide +kernel
theorem okd_non : Okd 0 13 .non := ⟨by rw [toPy, PyData.plain], by rw [toPy, PyData.depth]; exact Nat.le_refl _, by rw [toPy, PyData.showable], by rw [toPy]; decide +kernel⟩
theorem okd_str {x : Str} {m : Nat} (h : (PyData.shown (.str x)).length ≤ m) : Okd 0 m (.str x) := ⟨by rw [toPy, PyData.plain], by rw [toPy, PyData.depth]; exact Nat.le_refl _, by rw [toPy, PyData.showable], by rw [toPy]; exact h⟩
theorem okd_all {n m : Nat} : ∀ {ds : List D}, (∀ d ∈ ds, Okd n m d) → PyData.plainAll (toPys ds) = true ∧ PyData.depthAll (toPys ds) ≤ n ∧ PyData.showableAll (toPys ds) = true ∧ (PyData.shownAll (toPys ds)).length = ds.length ∧ ((PyData.shownAll (toPys ds)).map (·.length)).sum ≤ m * ds.length
  | [], _ => by rw [toPys]; exact ⟨rfl, Nat.zero_le _, rfl, rfl, Nat.le_refl _⟩
  | d :: ds, h => by
    obtain ⟨a1, a2, a3, a4, a5⟩ := okd_all fun e he => h e (List.mem_cons_of_mem _ he)
    have hd := h d (List.mem_cons_self ..)
    rw [toPys]
    refine ⟨by rw [PyData.plainAll, hd.pl, a1]; rfl, by rw [PyData.depthAll]; exact Nat.max_le.mpr ⟨hd.dp, a2⟩, by rw [PyData.showableAll, hd.sh, a3]; rfl, by rw [PyData.shownAll, List.length_cons, a4]; rfl, ?_⟩
    rw [PyData.shownAll, List.map_cons, List.sum_cons, List.length_cons, Nat.mul_succ]
    have := hd.ln
    omega
theorem okd_tup {n m k : Nat} {ds : List D} (h : ∀ d ∈ ds, Okd n m d) (hl : ds.length ≤ k) : Okd (n + 1) ((m + 2) * k + 8) (.tup ds) := by
  obtain ⟨a1, a2, a3, a4, a5⟩ := okd_all h
  refine ⟨by rw [toPy, PyData.plain]; exact a1, by rw [toPy, PyData.depth]; omega, by rw [toPy, PyData.showable]; exact a3, ?_⟩
  rw [toPy, PyData.shown]
  have h := tupleText_len_le (PyData.shownAll (toPys ds))
  rw [a4] at h
  have h2 : m * ds.length ≤ m * k := Nat.mul_le_mul_left m hl
  rw [Nat.add_mul]
  omega
theorem okd_lst {n m k : Nat} {ds : List D} (h : ∀ d ∈ ds, Okd n m d) (hl : ds.length ≤ k) : Okd (n + 1) ((m + 2) * k + 8) (.lst ds) := by
  obtain ⟨a1, a2, a3, a4, a5⟩ := okd_all h
  refine ⟨by rw [toPy, PyData.plain]; exact a1, by rw [toPy, PyData.depth]; omega, by rw [toPy, PyData.showable]; exact a3, ?_⟩
  rw [toPy, PyData.shown]
  have h := listText_len_le (PyData.shownAll (toPys ds))
  rw [a4] at h
  have h2 : m * ds.length ≤ m * k := Nat.mul_le_mul_left m hl
  rw [Nat.add_mul]
  omega
mutual
theorem eqv_refl : ∀ d : PyData, d.plain = true → PyData.eqv d d = true
  | .none, _ => by rw [PyData.eqv]
  | .bool b, _ => by rw [PyData.eqv]; exact beq_self_eq_true b
  | .int i, _ => by rw [PyData.eqv]; exact beq_self_eq_true i
  | .str x, _ => by rw [PyData.eqv]; exact beq_self_eq_true x
  | .list xs, h => by rw [PyData.plain] at h; rw [PyData.eqv]; exact eqvs_refl xs h
  | .tuple xs, h => by rw [PyData.plain] at h; rw [PyData.eqv]; exact eqvs_refl xs h
  | .dict _, h => by rw [PyData.plain] at h; cases h
theorem eqvs_refl : ∀ xs : List PyData, PyData.plainAll xs = true → PyData.eqvAll xs xs = true
  | [], _ => by rw [PyData.eqvAll]
  | x :: xs, h => by
    rw [PyData.plainAll, Bool.and_eq_true] at h
    rw [PyData.eqvAll, eqv_refl x h.1, eqvs_refl xs h.2]
    rfl
end
section
variable {n m n' m' : Nat} {d e : D}
theorem Okd.okE (h : Okd n m d) (hn : n ≤ 60) : Zd.okE d = true := by
  unfold Zd.okE
  rw [h.pl, decide_eq_true (Nat.le_trans h.dp hn)]
  rfl
theorem eqD_ok (h : Okd n m d) (g : Okd n' m' e) (hn : n ≤ 60) (hn' : n' ≤ 60) : eqD d e = some (.bl (eqB d e)) := by
  unfold eqD
  rw [h.okE hn, g.okE hn']
  rfl
theorem neD_ok (h : Okd n m d) (g : Okd n' m' e) (hn : n ≤ 60) (hn' : n' ≤ 60) : neD d e = some (.bl (!eqB d e)) := by
  unfold neD
  rw [h.okE hn, g.okE hn']
  rfl
theorem eqB_self (h : Okd n m d) : eqB d d = true := eqv_refl _ h.pl
theorem eqD_self (h : Okd n m d) (hn : n ≤ 60) : eqD d d = some (.bl true) := by rw [eqD_ok h h hn hn, eqB_self h]
theorem neD_self (h : Okd n m d) (hn : n ≤ 60) : neD d d = some (.bl false) := by rw [neD_ok h h hn hn, eqB_self h]; rfl
theorem eqD_of (h : Okd n m d) (hn : n ≤ 60) (he : d = e) : eqD d e = some (.bl true) := he ▸ eqD_self h hn
theorem neD_of (h : Okd n m d) (hn : n ≤ 60) (he : d = e) : neD d e = some (.bl false) := he ▸ neD_self h hn
theorem reprD_ok (h : Okd n m d) (hn : n ≤ 60) (hm : m ≤ 10000000) : reprD [d] = some (.str (toPy d).shown) := by
  show (if _ then _ else _) = _
  rw [if_pos]
  rw [h.pl, h.sh, decide_eq_true (Nat.le_trans h.dp hn), decide_eq_true (Nat.le_trans h.ln hm)]
  rfl
theorem okE_int (i : Int) : okE (.int i) = true := by unfold okE; rw [toPy, PyData.plain, PyData.depth]; rfl
theorem okE_str (x : Str) : okE (.str x) = true := by unfold okE; rw [toPy, PyData.plain, PyData.depth]; rfl
theorem okE_non : okE .non = true := by unfold okE; rw [toPy, PyData.plain, PyData.depth]; rfl
theorem okE_bl (b : Bool) : okE (.bl b) = true := by unfold okE; rw [toPy, PyData.plain, PyData.depth]; rfl
theorem eqD_int (i j : Int) : eqD (.int i) (.int j) = some (.bl (decide (i = j))) := by
  unfold eqD
  rw [okE_int, okE_int]
  show some (D.bl (eqB _ _)) = _
  unfold eqB
  rw [toPy, toPy, PyData.eqv]
  rfl
theorem neD_int (i j : Int) : neD (.int i) (.int j) = some (.bl (!decide (i = j))) := by
  unfold neD
  rw [okE_int, okE_int]
  show some (D.bl (!eqB _ _)) = _
  unfold eqB
  rw [toPy, toPy, PyData.eqv]
  rfl
theorem eqD_str (x y : Str) : eqD (.str x) (.str y) = some (.bl (x == y)) := by
  unfold eqD
  rw [okE_str, okE_str]
  show some (D.bl (eqB _ _)) = _
  unfold eqB
  rw [toPy, toPy, PyData.eqv]
theorem neD_str (x y : Str) : neD (.str x) (.str y) = some (.bl (!(x == y))) := by
  unfold neD
  rw [okE_str, okE_str]
  show some (D.bl (!eqB _ _)) = _
  unfold eqB
  rw [toPy, toPy, PyData.eqv]
theorem neD_strs (x : Str) : neD (.str x) (.str x) = some (.bl false) := by rw [neD_str, beq_self_eq_true]; rfl
theorem eqD_strs (x : Str) : eqD (.str x) (.str x) = some (.bl true) := by rw [eqD_str, beq_self_eq_true]
end
instance xixL {ds : List D} {i : Int} {Q : D → Prop} : W1 (ixD (.lst ds) (.int i)) Q (W (atI ds i) Q) := ⟨fun h => h⟩
instance xixT {ds : List D} {i : Int} {Q : D → Prop} : W1 (ixD (.tup ds) (.int i)) Q (W (atI ds i) Q) := ⟨fun h => h⟩
instance xixS {ns : List Int} {i : Int} {Q : D → Prop} : W1 (ixD (.scr ns) (.int i)) Q (W (atI ns i) fun x => Q (.int x)) := ⟨fun h => by
  show W ((atI ns i).map D.int) Q
  rw [W_map]
  exact h⟩
/-! ### lists by index -/
section
variable {α β : Type}
theorem atI_map {f : α → β} {xs : List α} {i : Int} {x : α} (h : atI xs i = some x) : atI (xs.map f) i = some (f x) := by
  obtain ⟨j, h1, h2⟩ := Option.bind_eq_some_iff.mp h
  unfold atI
  rw [List.length_map, h1]
  show (xs.map f)[j]? = _
  rw [List.getElem?_map, h2]
  rfl
theorem atI_of {xs : List α} {i : Int} {k : Nat} {x : α} (e : i = (k : Int)) (h : xs[k]? = some x) : atI xs i = some x := e ▸ atI_nat h
theorem atI_0 {x : α} {xs : List α} : atI (x :: xs) 0 = some x := atI_nat (j := 0) rfl
theorem atI_1 {x y : α} {xs : List α} : atI (x :: y :: xs) 1 = some y := atI_nat (j := 1) rfl
theorem rngL_at {lo : Int} {n k : Nat} {d : D} (h : (rngL lo n)[k]? = some d) : k < n ∧ d = .int (lo + (k : Nat)) := by
  unfold rngL at h
  rw [List.getElem?_map] at h
  cases hk : (List.range n)[k]? with
  | none => rw [hk] at h; cases h
  | some z =>
    rw [hk] at h
    cases h
    have hn : k < n := by
      have := (List.getElem?_eq_some_iff.mp hk).1
      rwa [List.length_range] at this
    rw [List.getElem?_range hn] at hk
    cases hk
    exact ⟨hn, rfl⟩
theorem rngL_len {lo : Int} {n : Nat} : (rngL lo n).length = n := by unfold rngL; rw [List.length_map, List.length_range]
theorem rngD_at {lo : Int} {n k : Nat} {d : D} (h : (rngD lo n)[k]? = some d) : k < n ∧ d = .int (lo - (k : Nat)) := by
  unfold rngD at h
  rw [List.getElem?_map] at h
  cases hk : (List.range n)[k]? with
  | none => rw [hk] at h; cases h
  | some z =>
    rw [hk] at h
    cases h
    have hn : k < n := by
      have := (List.getElem?_eq_some_iff.mp hk).1
      rwa [List.length_range] at this
    rw [List.getElem?_range hn] at hk
    cases hk
    exact ⟨hn, rfl⟩
theorem rngD_len {lo : Int} {n : Nat} : (rngD lo n).length = n := by unfold rngD; rw [List.length_map, List.length_range]
end
theorem lc_enc {α : Type} {g : Tg} {t : Tx} {f : Ex} {is : List Nat} {xs : List α} {enc h : α → D} {Γ : Gm} {Q : List D → Gm → Prop} (hs : ∀ x ∈ xs, W (g (enc x) Γ) fun Γ1 => Wp (t Γ1) fun c Γ2 => Br c (Wp (f Γ2) fun y Γ3 => y = h x ∧ wip is Γ3 = Γ) False) (he : Q (xs.map h) Γ) : Wp (lcL g t f is (xs.map enc) Γ) Q := by
  refine lc_inv (fun k acc Γ' => acc = (xs.take k).map h ∧ Γ' = Γ) ⟨rfl, rfl⟩ ?_ ?_
  · rintro k d acc _ hd ⟨rfl, rfl⟩
    rw [List.getElem?_map] at hd
    obtain ⟨x, hx, rfl⟩ := Option.map_eq_some_iff.mp hd
    obtain ⟨Γ1, e1, c, Γ2, e2, hb⟩ := hs x (List.mem_of_getElem? hx)
    rcases hb with ⟨rfl, y, Γ3, e3, hy, hw⟩ | ⟨_, hf⟩
    · refine ⟨Γ1, e1, true, Γ2, e2, .inl ⟨rfl, y, Γ3, e3, ?_, hw⟩⟩
      rw [List.take_succ, hx, hy, List.map_append]
      rfl
    · exact hf.elim
  · rintro acc _ ⟨rfl, rfl⟩
    rw [List.length_map, List.take_length]
    exact he
/-! ### built-in functions over lists -/
theorem allD_true {ds : List D} (h : ∀ d ∈ ds, d = .bl true) : allD [.lst ds] = some (.bl true) := by
  have e : ∀ ds : List D, (∀ d ∈ ds, d = .bl true) → ds = (List.replicate ds.length true).map D.bl := fun ds => by
    induction ds with
    | nil => intro _; rfl
    | cons d ds ih =>
      intro h
      rw [List.length_cons, List.replicate_succ, List.map_cons, ← ih fun e he => h e (List.mem_cons_of_mem _ he), h d (List.mem_cons_self ..)]
  rw [e ds h]
  show (blsOf _).map _ = _
  rw [blsOf_map]
  simp
theorem allD_map (bs : List Bool) : allD [.lst (bs.map D.bl)] = some (.bl (bs.all id)) := by
  show (blsOf _).map _ = _
  rw [blsOf_map]
  rfl
theorem anyD_map (bs : List Bool) : anyD [.lst (bs.map D.bl)] = some (.bl (bs.any id)) := by
  show (blsOf _).map _ = _
  rw [blsOf_map]
  rfl
theorem minD_map (n : Int) (ns : List Int) : minD [.lst ((n :: ns).map D.int)] = some (.int (minI n ns)) := by
  show (intsOf _).bind _ = _
  rw [intsOf_map]
  rfl
theorem maxD_map (n : Int) (ns : List Int) : maxD [.lst ((n :: ns).map D.int)] = some (.int (maxI n ns)) := by
  show (intsOf _).bind _ = _
  rw [intsOf_map]
  rfl
theorem sumD_map (ns : List Int) : sumD [.lst (ns.map D.int)] = some (.int ns.sum) := by
  show (intsOf _).map _ = _
  rw [intsOf_map]
  rfl
theorem sortedD_map (ns : List Int) : sortedD [.lst (ns.map D.int)] = some (.lst ((sortI ns).map D.int)) := by
  show (intsOf _).map _ = _
  rw [intsOf_map]
  rfl
section
variable {g g1 : Tg} {t t1 : Tx} {it1 : Exs} {f : Ex} {is is1 : List Nat}
theorem lc2_inv {ds : List D} {Γ : Gm} {Q : List D → Gm → Prop} (I : Nat → List D → Gm → Prop) (h0 : I 0 [] Γ)
    (hs : ∀ k d acc Γ, ds[k]? = some d → I k acc Γ → W (g d Γ) fun Γ1 => Wp (t Γ1) fun c Γ2 => Br c (Wp (it1 Γ2) fun es Γ3 => W (some (wip is1 Γ3)) fun Γ4 => Wp (lcL g1 t1 f is1 es Γ4) fun r Γ5 => W (some (wip is Γ5)) fun Γ6 => I (k + 1) (acc ++ r) Γ6) (I (k + 1) acc (wip is Γ2))) (he : ∀ acc Γ, I ds.length acc Γ → Q acc Γ) : Wp (lcL2 g t it1 g1 t1 f is is1 ds Γ) Q := by
  suffices h : ∀ (l : List D) (k : Nat) (acc : List D) (Γ : Gm), ds.drop k = l → k + l.length = ds.length → I k acc Γ → Wp (lcL2 g t it1 g1 t1 f is is1 l Γ) (fun r Γ => Q (acc ++ r) Γ) from (h ds 0 [] Γ rfl (by simp) h0)
  intro l
  induction l with
  | nil =>
    intro k acc Γ e hl i
    refine Wp.to rfl ?_
    rw [List.append_nil]
    have : k = ds.length := by simpa using hl
    rw [this] at i
    exact he _ _ i
  | cons d l ih =>
    intro k acc Γ e hl i
    have hd : ds[k]? = some d := by rw [← List.head?_drop, e]; rfl
    have e' : ds.drop (k + 1) = l := by rw [← List.drop_drop, e]; rfl
    have hl' : k + 1 + l.length = ds.length := by rw [List.length_cons] at hl; omega
    obtain ⟨Γ1, e1, c, Γ2, e2, hb⟩ := hs k d acc Γ hd i
    rcases hb with ⟨rfl, es, Γ3, e3, Γ4, e4, r0, Γ5, e5, Γ6, e6, i3⟩ | ⟨rfl, i3⟩
    · cases e4
      cases e6
      obtain ⟨r, y, e7, q⟩ := ih (k + 1) _ _ e' hl' i3
      refine ⟨r0 ++ r, y, ?_, by rw [List.append_assoc] at q; exact q⟩
      rw [lcL2, e1]
      show (t Γ1).bind _ = _
      rw [e2]
      show (it1 Γ2).bind _ = _
      rw [e3]
      show (lcL g1 t1 f is1 es (wip is1 Γ3)).bind _ = _
      rw [e5]
      show (lcL2 g t it1 g1 t1 f is is1 l (wip is Γ5)).map _ = _
      rw [e7]
      rfl
    · obtain ⟨r, y, e4, q⟩ := ih (k + 1) _ _ e' hl' i3
      refine ⟨r, y, ?_, q⟩
      rw [lcL2, e1]
      show (t Γ1).bind _ = _
      rw [e2]
      exact e4
end
end Zd

set_option maxHeartbeats 4000000
/-! Reckoning: dicts, while, t[::-1] -/
namespace Zd
open PySem PySem.Spec PyProof.Rows L2 Pd
section
variable {Γ : Gm} {Q : D → Gm → Prop} {QF : Fl → Gm → Prop} {QK : List (Key × D) → Prop} {i : Nat} {f : Ex} {a : Ox} {t : Tx} {b : Sx}
theorem w_muK : W (muK Γ i) QK = W (muD Γ i) fun d => W (dctOf d) QK := W_bind
instance xw_muK : W1 (muK Γ i) QK (W (muD Γ i) fun d => W (dctOf d) QK) := ⟨fun h => Eq.mpr w_muK h⟩
theorem w_dput : Wp (sDput i f a Γ) QF = Wp (f Γ) fun x Γ => W (muK Γ i) fun _ => Wp (a Γ) fun k Γ => W (k.get Γ) fun k => W (keyD k) fun k => W (muK Γ i) fun kvs => Gd (kvs.length < 10000000) (W (some (putS Γ i (.dct (putD kvs k x)))) fun Γ => QF .nx Γ) := by
  rw [Wp_W, Wp_W]
  unfold sDput
  rw [W_bind]
  congr; funext p
  rw [W_bind]
  congr; funext x
  rw [W_bind, Wp_W]
  congr; funext q
  rw [W_bind]
  congr; funext y
  rw [W_bind]
  congr; funext k
  rw [W_bind]
  congr; funext ds
  rw [W_guard, W_some, W_some]
instance xw_dput : Wx (sDput i f a Γ) QF (Wp (f Γ) fun x Γ => W (muK Γ i) fun _ => Wp (a Γ) fun k Γ => W (k.get Γ) fun k => W (keyD k) fun k => W (muK Γ i) fun kvs => Gd (kvs.length < 10000000) (W (some (putS Γ i (.dct (putD kvs k x)))) fun Γ => QF .nx Γ)) := ⟨fun h => Eq.mpr w_dput h⟩
theorem w_dict1 : Wp (eDict1 a f Γ) Q = Wp (a Γ) fun k Γ => Wp (f Γ) fun x Γ => W (k.get Γ) fun k => W (keyD k) fun k => Q (.dct [(k, x)]) Γ := by
  rw [Wp_W, Wp_W]
  unfold eDict1
  rw [W_bind]
  congr; funext p
  rw [W_bind, Wp_W]
  congr; funext q
  rw [W_bind]
  congr; funext y
  rw [W_map]
instance xw_dict1 : Wx (eDict1 a f Γ) Q (Wp (a Γ) fun k Γ => Wp (f Γ) fun x Γ => W (k.get Γ) fun k => W (keyD k) fun k => Q (.dct [(k, x)]) Γ) := ⟨fun h => Eq.mpr w_dict1 h⟩
theorem w_dnew : Wp (eDNew Γ) Q = Q (.dct []) Γ := Wp_some
instance xw_dnew : Wx (eDNew Γ) Q (Q (.dct []) Γ) := ⟨fun h => Eq.mpr w_dnew h⟩
def revD : D → Option D
  | .tup ds => some (.tup ds.reverse)
  | .lst ds => some (.lst ds.reverse)
  | _ => none
theorem w_rev2 : Wp (eRev2 a Γ) Q = Wp (a Γ) fun x Γ => W (x.get Γ) fun d => W (revD d) fun d => Q d Γ := by
  rw [Wp_W, Wp_W]
  unfold eRev2
  rw [W_bind]
  congr; funext p
  rw [W_bind]
  congr; funext x
  cases x with
  | tup ds => show W (some _) _ = W (some _) _; rw [W_some, W_some]
  | lst ds => show W (some _) _ = W (some _) _; rw [W_some, W_some]
  | _ => show W none _ = W none _; rw [W_no, W_no]
instance xw_rev2 : Wx (eRev2 a Γ) Q (Wp (a Γ) fun x Γ => W (x.get Γ) fun d => W (revD d) fun d => Q d Γ) := ⟨fun h => Eq.mpr w_rev2 h⟩
/-- while, with a number that falls -/
theorem whl_inv (I : Nat → Gm → Prop) (n : Nat) (h0 : I n Γ) (hs : ∀ n Γ, I n Γ → Wp (t Γ) fun c Γ1 => Br c (Wp (b Γ1) fun fl Γ2 => Nxt fl (∃ m, m < n ∧ I m Γ2) (QF .nx Γ2) fun r => QF (.rt r) Γ2) (QF .nx Γ1)) : Wp (sWhile t b Γ) QF := by
  suffices h : ∀ N n Γ, n < N → I n Γ → ∃ m fl Γ', whileL t b m Γ = some (fl, Γ') ∧ QF fl Γ' by
    obtain ⟨m, fl, Γ', e, q⟩ := h (n + 1) n Γ (by omega) h0
    exact ⟨fl, Γ', sWhile_of e, q⟩
  intro N
  induction N with
  | zero => intro n Γ h; omega
  | succ N ih =>
    intro n Γ hn hi
    obtain ⟨c, Γ1, e1, h | h⟩ := hs n Γ hi
    · obtain ⟨rfl, fl, Γ2, e2, q⟩ := h
      cases fl with
      | nx =>
        obtain ⟨m, hm, q⟩ := (show (∃ m, m < n ∧ I m Γ2) from q)
        obtain ⟨k, fl, Γ', e3, q⟩ := ih m Γ2 (by omega) q
        exact ⟨k + 1, fl, Γ', by simp [whileL, e1, e2, e3], q⟩
      | ct =>
        obtain ⟨m, hm, q⟩ := (show (∃ m, m < n ∧ I m Γ2) from q)
        obtain ⟨k, fl, Γ', e3, q⟩ := ih m Γ2 (by omega) q
        exact ⟨k + 1, fl, Γ', by simp [whileL, e1, e2, e3], q⟩
      | br => exact ⟨1, .nx, Γ2, by simp [whileL, e1, e2], q⟩
      | rt d => exact ⟨1, .rt d, Γ2, by simp [whileL, e1, e2], q⟩
    · obtain ⟨rfl, q⟩ := h
      exact ⟨1, .nx, Γ1, by simp [whileL, e1], q⟩
end
end Zd

set_option maxHeartbeats 4000000
/-! Ground data (no truths, no dicts), where == is equality; membership. -/
namespace Zd
open PySem PySem.Spec PyProof.Rows L2 Pd
inductive Gr : Nat → D → Prop
  | non {n : Nat} : Gr n .non
  | int {n : Nat} (i : Int) : Gr n (.int i)
  | str {n : Nat} (x : Str) : Gr n (.str x)
  | tup {n : Nat} {ds : List D} (h : ∀ d ∈ ds, Gr n d) : Gr (n + 1) (.tup ds)
  | lst {n : Nat} {ds : List D} (h : ∀ d ∈ ds, Gr n d) : Gr (n + 1) (.lst ds)
theorem Gr.mono : ∀ {n : Nat} {d : D}, Gr n d → ∀ {m : Nat}, n ≤ m → Gr m d
  | _, _, .non, _, _ => .non
  | _, _, .int i, _, _ => .int i
  | _, _, .str i, _, _ => .str i
  | _, _, .tup h, m, hm => by
    obtain ⟨k, rfl⟩ : ∃ k, m = k + 1 := ⟨m - 1, by omega⟩
    exact .tup fun d hd => (h d hd).mono (by omega)
  | _, _, .lst h, m, hm => by
    obtain ⟨k, rfl⟩ : ∃ k, m = k + 1 := ⟨m - 1, by omega⟩
    exact .lst fun d hd => (h d hd).mono (by omega)
theorem plAll {n : Nat} (ih : ∀ d, Gr n d → (toPy d).plain = true ∧ (toPy d).depth ≤ n) : ∀ {ds : List D}, (∀ d ∈ ds, Gr n d) → PyData.plainAll (toPys ds) = true ∧ PyData.depthAll (toPys ds) ≤ n
  | [], _ => by rw [toPys]; exact ⟨rfl, Nat.zero_le _⟩
  | d :: ds, h => by
    obtain ⟨a1, a2⟩ := plAll ih fun e he => h e (List.mem_cons_of_mem _ he)
    obtain ⟨b1, b2⟩ := ih d (h d (List.mem_cons_self ..))
    rw [toPys]
    exact ⟨by rw [PyData.plainAll, b1, a1]; rfl, by rw [PyData.depthAll]; exact Nat.max_le.mpr ⟨b2, a2⟩⟩
theorem Gr.pl : ∀ (n : Nat) (d : D), Gr n d → (toPy d).plain = true ∧ (toPy d).depth ≤ n
  | n, _, .non => by rw [toPy]; exact ⟨rfl, by rw [PyData.depth]; omega⟩
  | n, _, .int i => by rw [toPy]; exact ⟨by rw [PyData.plain], by rw [PyData.depth]; omega⟩
  | n, _, .str i => by rw [toPy]; exact ⟨by rw [PyData.plain], by rw [PyData.depth]; omega⟩
  | n + 1, _, .tup h => by
    obtain ⟨a1, a2⟩ := plAll (fun d hd => Gr.pl n d hd) h
    rw [toPy]
    exact ⟨by rw [PyData.plain]; exact a1, by rw [PyData.depth]; omega⟩
  | n + 1, _, .lst h => by
    obtain ⟨a1, a2⟩ := plAll (fun d hd => Gr.pl n d hd) h
    rw [toPy]
    exact ⟨by rw [PyData.plain]; exact a1, by rw [PyData.depth]; omega⟩
theorem eqvAll_iff {n : Nat} (ih : ∀ d e, Gr n d → Gr n e → (PyData.eqv (toPy d) (toPy e) = true ↔ d = e)) : ∀ {ds es : List D}, (∀ d ∈ ds, Gr n d) → (∀ d ∈ es, Gr n d) → (PyData.eqvAll (toPys ds) (toPys es) = true ↔ ds = es)
  | [], [], _, _ => by simp [toPys, PyData.eqvAll]
  | [], _ :: _, _, _ => by simp [toPys, PyData.eqvAll]
  | _ :: _, [], _, _ => by simp [toPys, PyData.eqvAll]
  | d :: ds, e :: es, h, g => by
    have a := eqvAll_iff ih (fun e he => h e (List.mem_cons_of_mem _ he)) (fun e he => g e (List.mem_cons_of_mem _ he))
    rw [toPys, toPys, PyData.eqvAll, Bool.and_eq_true, a, ih d e (h d (List.mem_cons_self ..)) (g e (List.mem_cons_self ..)), List.cons.injEq]
theorem Gr.eqv : ∀ (n : Nat) (d e : D), Gr n d → Gr n e → (PyData.eqv (toPy d) (toPy e) = true ↔ d = e) := by
  intro n
  induction n with
  | zero => intro d e h g; cases h <;> cases g <;> simp [toPy, PyData.eqv]
  | succ n ih =>
    intro d e h g
    cases h <;> cases g
    case tup.tup h _ g => rw [toPy, toPy, PyData.eqv, eqvAll_iff ih h g, D.tup.injEq]
    case lst.lst h _ g => rw [toPy, toPy, PyData.eqv, eqvAll_iff ih h g, D.lst.injEq]
    all_goals simp [toPy, PyData.eqv]
section
variable {n : Nat} {d e : D} {ds : List D}
theorem Gr.okE (h : Gr n d) (hn : n ≤ 60 := by omega) : Zd.okE d = true := by
  obtain ⟨a, b⟩ := Gr.pl n d h
  unfold Zd.okE
  rw [a, decide_eq_true (Nat.le_trans b hn)]
  rfl
theorem Gr.eqB (h : Gr n d) (g : Gr n e) : Zd.eqB d e = true ↔ d = e := Gr.eqv n d e h g
theorem Gr.eqB0 (h : Gr n d) (g : Gr n e) (hn : d ≠ e) : Zd.eqB d e = false := by
  cases z : Zd.eqB d e with
  | false => rfl
  | true => exact absurd ((h.eqB g).mp z) hn
theorem eqD_yes (h : Gr n d) (he : d = e) (hn : n ≤ 60 := by omega) : eqD d e = some (.bl true) := by
  subst he
  unfold eqD
  rw [h.okE hn, (h.eqB h).mpr rfl]
  rfl
theorem eqD_no (h : Gr n d) (g : Gr n e) (he : d ≠ e) (hn : n ≤ 60 := by omega) : eqD d e = some (.bl false) := by
  unfold eqD
  rw [h.okE hn, g.okE hn, h.eqB0 g he]
  rfl
theorem neD_yes (h : Gr n d) (g : Gr n e) (he : d ≠ e) (hn : n ≤ 60 := by omega) : neD d e = some (.bl true) := by
  unfold neD
  rw [h.okE hn, g.okE hn, h.eqB0 g he]
  rfl
theorem neD_no (h : Gr n d) (he : d = e) (hn : n ≤ 60 := by omega) : neD d e = some (.bl false) := by
  subst he
  unfold neD
  rw [h.okE hn, (h.eqB h).mpr rfl]
  rfl
theorem Gr.any (h : ∀ x ∈ ds, Gr n x) (g : Gr n e) : (ds.any fun z => Zd.eqB z e) = true ↔ e ∈ ds := by
  rw [List.any_eq_true]
  constructor
  · rintro ⟨x, hx, q⟩
    rw [((h x hx).eqB g).mp q] at hx
    exact hx
  · exact fun q => ⟨e, q, (g.eqB g).mpr rfl⟩
theorem niD_yes (h : ∀ x ∈ ds, Gr n x) (g : Gr n e) (he : e ∉ ds) (hn : n < 60 := by omega) : niD e (.lst ds) = some (.bl true) := by
  have a : (ds.any fun z => Zd.eqB z e) = false := by
    cases z : (ds.any fun z => Zd.eqB z e) with
    | false => rfl
    | true => exact absurd ((Gr.any h g).mp z) he
  show (if okE e && okE (.lst ds) then some (D.bl (!ds.any fun z => Zd.eqB z e)) else none) = _
  rw [g.okE (by omega), (Gr.lst h).okE (by omega), a]
  rfl
theorem niD_no (h : ∀ x ∈ ds, Gr n x) (g : Gr n e) (he : e ∈ ds) (hn : n < 60 := by omega) : niD e (.lst ds) = some (.bl false) := by
  show (if okE e && okE (.lst ds) then some (D.bl (!ds.any fun z => Zd.eqB z e)) else none) = _
  rw [g.okE (by omega), (Gr.lst h).okE (by omega), (Gr.any h g).mpr he]
  rfl
theorem gr_ints {ns : List Int} : ∀ d ∈ ns.map D.int, Gr 0 d := fun d hd => by
  obtain ⟨i, _, rfl⟩ := List.mem_map.mp hd
  exact .int i
end
/-- as many numbers below n, no one twice: at most n -/
theorem nodup_le : ∀ (n : Nat) (l : List Nat), l.Nodup → (∀ x ∈ l, x < n) → l.length ≤ n
  | 0, [], _, _ => Nat.le_refl _
  | 0, x :: l, _, h => absurd (h x (List.mem_cons_self ..)) (by omega)
  | n + 1, l, hd, h => by
    by_cases hn : n ∈ l
    · have h1 := nodup_le n (l.erase n) (hd.erase n) fun x hx => by
        have h2 := h x (List.mem_of_mem_erase hx)
        have h3 : x ≠ n := fun e => by subst e; exact absurd hx (hd.not_mem_erase)
        omega
      rw [List.length_erase_of_mem hn] at h1
      omega
    · have h1 := nodup_le n l hd fun x hx => by
        have h2 := h x hx
        have h3 : x ≠ n := fun e => by subst e; exact hn hx
        omega
      omega
end Zd

set_option maxHeartbeats 4000000
namespace Zd
open PySem PySem.Spec PyProof.Rows L2 Pd
section
variable {Γ : Gm} {f : Ex} {fs : Exs} {QL : List D → Gm → Prop}
def enm1 : List D → Option (List D)
  | [d1] => (lstD d1).map fun s1 => enL 0 s1
  | _ => none
theorem enm_eq : iEnm fs Γ = (fs Γ).bind fun p => (enm1 p.1).map fun l => (l, p.2) := by
  unfold iEnm enm1
  cases fs Γ with
  | none => rfl
  | some p =>
    obtain ⟨ds, Γ1⟩ := p
    match ds with
    | [] => rfl
    | [d1] => show (lstD d1).bind _ = ((lstD d1).map _).map _; cases lstD d1 <;> rfl
    | _ :: _ :: _ => rfl
theorem w_enm : Wp (iEnm fs Γ) QL = Wp (fs Γ) fun ds Γ => W (enm1 ds) fun l => QL l Γ := by
  rw [Wp_W, Wp_W, enm_eq, W_bind]
  congr
  funext p
  rw [W_map]
instance xw_enm : Wx (iEnm fs Γ) QL (Wp (fs Γ) fun ds Γ => W (enm1 ds) fun l => QL l Γ) := ⟨fun h => Eq.mpr w_enm h⟩
theorem w_vsS : Wp (vsS f fs Γ) QL = Wp (f Γ) fun x Γ => W (itemsD x) fun xs => Gd (xs.length ≤ 1000) (Wp (fs Γ) fun ys Γ => QL (xs ++ ys) Γ) := by
  unfold vsS
  rw [Wp_W, Wp_W, W_bind]
  congr
  funext p
  rw [W_bind]
  congr
  funext xs
  by_cases h : xs.length ≤ 1000
  · rw [if_pos h, W_map, Wp_W]
    simp [Gd, h]
  · rw [if_neg h]
    simp [Gd, h, W_no]
instance xw_vsS : Wx (vsS f fs Γ) QL (Wp (f Γ) fun x Γ => W (itemsD x) fun xs => Gd (xs.length ≤ 1000) (Wp (fs Γ) fun ys Γ => QL (xs ++ ys) Γ)) := ⟨fun h => Eq.mpr w_vsS h⟩
theorem ssetD_map {ns : List Int} (h : ns.length < 60) : ssetD [.lst (ns.map D.int)] = some (.lst ((sortI (ddI ns)).map D.int)) := by
  unfold ssetD
  have e : intsOf (ns.map D.int) = some ns := intsOf_map ns
  show (intsOf (ns.map D.int)).bind _ = _
  rw [e]
  show (if ns.length < 60 then _ else none) = _
  rw [if_pos h]
theorem w_idxS {Γ : Gm} {a b : Ox} {Q : D → Gm → Prop} : Wp (eIdxS a b Γ) Q = Wp (a Γ) fun x Γ => W (x.get Γ) fun l0 => W (lstOf l0) fun _ => Wp (b Γ) fun y Γ => W (x.get Γ) fun l => W (lstOf l) fun ds => W (strsOf ds) fun ns => W (y.get Γ) fun y => W (toSt y) fun y => W (idxS y ns) fun j => Q (.int (j : Nat)) Γ := by
  rw [Wp_W, Wp_W]
  unfold eIdxS
  rw [W_bind]
  congr; funext p
  rw [W_bind]
  unfold eIdxS.lstOf?
  rw [W_bind]
  congr; funext l0
  congr; funext l1
  rw [W_bind, Wp_W]
  congr; funext q
  rw [W_bind]
  congr; funext l
  rw [W_bind]
  congr; funext ds
  rw [W_bind]
  congr; funext ns
  rw [W_bind]
  congr; funext x
  rw [W_bind]
  congr; funext x
  rw [W_map]
instance xw_idxS {Γ : Gm} {a b : Ox} {Q : D → Gm → Prop} : Wx (eIdxS a b Γ) Q (Wp (a Γ) fun x Γ => W (x.get Γ) fun l0 => W (lstOf l0) fun _ => Wp (b Γ) fun y Γ => W (x.get Γ) fun l => W (lstOf l) fun ds => W (strsOf ds) fun ns => W (y.get Γ) fun y => W (toSt y) fun y => W (idxS y ns) fun j => Q (.int (j : Nat)) Γ) := ⟨fun h => Eq.mpr w_idxS h⟩
end
end Zd

set_option maxHeartbeats 4000000
namespace Zd
open PySem PySem.Spec PyProof.Rows L2 Pd
theorem w_gUt {Γ : Gm} {tgs : Tgs} {QG : Gm → Prop} {ds : List D} : W (gU tgs (.tup ds) Γ) QG = W (tgs ds Γ) QG := rfl
instance xw_gUt {Γ : Gm} {tgs : Tgs} {QG : Gm → Prop} {ds : List D} : W1 (gU tgs (.tup ds) Γ) QG (W (tgs ds Γ) QG) := ⟨fun h => Eq.mpr w_gUt h⟩
theorem w_gUl {Γ : Gm} {tgs : Tgs} {QG : Gm → Prop} {ds : List D} : W (gU tgs (.lst ds) Γ) QG = W (tgs ds Γ) QG := rfl
instance xw_gUl {Γ : Gm} {tgs : Tgs} {QG : Gm → Prop} {ds : List D} : W1 (gU tgs (.lst ds) Γ) QG (W (tgs ds Γ) QG) := ⟨fun h => Eq.mpr w_gUl h⟩
def enU1 : List D → Option (List D)
  | [d1] => enS d1
  | _ => none
theorem enmU_eq {Γ : Gm} {fs : Exs} : iEnmU fs Γ = (fs Γ).bind fun p => (enU1 p.1).map fun l => (l, p.2) := by
  unfold iEnmU enU1
  cases fs Γ with
  | none => rfl
  | some p =>
    obtain ⟨ds, Γ1⟩ := p
    match ds with
    | [] => rfl
    | [d1] => rfl
    | _ :: _ :: _ => rfl
theorem w_enmU {Γ : Gm} {fs : Exs} {QL : List D → Gm → Prop} : Wp (iEnmU fs Γ) QL = Wp (fs Γ) fun ds Γ => W (enU1 ds) fun l => QL l Γ := by
  rw [Wp_W, Wp_W, enmU_eq, W_bind]
  congr
  funext p
  rw [W_map]
instance xw_enmU {Γ : Gm} {fs : Exs} {QL : List D → Gm → Prop} : Wx (iEnmU fs Γ) QL (Wp (fs Γ) fun ds Γ => W (enU1 ds) fun l => QL l Γ) := ⟨fun h => Eq.mpr w_enmU h⟩
theorem w_chain3 {Γ : Gm} {r r' r'' : D → D → Option D} {fo go ho io : Ox} {Q : D → Gm → Prop} : Wp (eChain3 r r' r'' fo go ho io Γ) Q = Wp (fo Γ) fun x Γ => Wp (go Γ) fun y Γ => W (x.get Γ) fun dx => W (y.get Γ) fun dy => W (r dx dy) fun k => W (toB k) fun k => Br k (Wp (ho Γ) fun z Γ => W (y.get Γ) fun dy => W (z.get Γ) fun dz => W (r' dy dz) fun k => W (toB k) fun k => Br k (Wp (io Γ) fun u Γ => W (z.get Γ) fun dz => W (u.get Γ) fun du => W (r'' dz du) fun d => Q d Γ) (Q (.bl false) Γ)) (Q (.bl false) Γ) := by
  rw [Wp_W, Wp_W]
  unfold eChain3
  rw [W_bind]
  congr; funext p
  rw [W_bind, Wp_W]
  congr; funext q
  rw [W_bind]
  congr; funext x
  rw [W_bind]
  congr; funext y
  split
  · rename_i e
    rw [e, W_some]
    show _ = W (some true) _
    rw [W_some, Br_t, W_bind, Wp_W]
    congr; funext z
    rw [W_bind]
    congr; funext y'
    rw [W_bind]
    congr; funext w
    split
    · rename_i e2
      rw [e2, W_some]
      show _ = W (some true) _
      rw [W_some, Br_t, W_bind, Wp_W]
      congr; funext u
      rw [W_bind]
      congr; funext z'
      rw [W_bind]
      congr; funext w'
      rw [W_map]
    · rename_i e2
      rw [e2, W_some, W_some]
      show _ = W (some false) _
      rw [W_some, Br_f]
    · rename_i n1 n2
      refine propext ⟨fun ⟨_, h, _⟩ => (by cases h), fun ⟨k, h, k', h2, _⟩ => ?_⟩
      cases toB_some h2
      cases k'
      · exact absurd h n2
      · exact absurd h n1
  · rename_i e
    rw [e, W_some, W_some]
    show _ = W (some false) _
    rw [W_some, Br_f]
  · rename_i n1 n2
    refine propext ⟨fun ⟨_, h, _⟩ => (by cases h), fun ⟨k, h, k', h2, _⟩ => ?_⟩
    cases toB_some h2
    cases k'
    · exact absurd h n2
    · exact absurd h n1
instance xw_chain3 {Γ : Gm} {r r' r'' : D → D → Option D} {fo go ho io : Ox} {Q : D → Gm → Prop} : Wx (eChain3 r r' r'' fo go ho io Γ) Q (Wp (fo Γ) fun x Γ => Wp (go Γ) fun y Γ => W (x.get Γ) fun dx => W (y.get Γ) fun dy => W (r dx dy) fun k => W (toB k) fun k => Br k (Wp (ho Γ) fun z Γ => W (y.get Γ) fun dy => W (z.get Γ) fun dz => W (r' dy dz) fun k => W (toB k) fun k => Br k (Wp (io Γ) fun u Γ => W (z.get Γ) fun dz => W (u.get Γ) fun du => W (r'' dz du) fun d => Q d Γ) (Q (.bl false) Γ)) (Q (.bl false) Γ)) := ⟨fun h => Eq.mpr w_chain3 h⟩
theorem w_callP {Γ : Gm} {F : List D → Option D} {fs : Exs} {Q : D → Gm → Prop} : Wp (eCallP F fs Γ) Q = Wp (fs Γ) fun ds Γ => W (F ds) fun d => W (fstD d) fun r => Q r Γ := by
  rw [Wp_W, Wp_W]
  unfold eCallP
  rw [W_bind]
  congr; funext p
  rw [W_bind]
  congr; funext d
  rw [W_map]
instance xw_callP {Γ : Gm} {F : List D → Option D} {fs : Exs} {Q : D → Gm → Prop} : Wx (eCallP F fs Γ) Q (Wp (fs Γ) fun ds Γ => W (F ds) fun d => W (fstD d) fun r => Q r Γ) := ⟨fun h => Eq.mpr w_callP h⟩
def nxOf : Fl → Option Unit
  | .nx => some ()
  | _ => none
theorem w_seqP {Γ : Gm} {s s' : Sx} {QF : Fl → Gm → Prop} : Wp (sSeqP s s' Γ) QF = Wp (s Γ) fun fl Γ => W (nxOf fl) fun _ => Wp (s' Γ) QF := by
  rw [Wp_W, Wp_W]
  unfold sSeqP
  rw [W_bind]
  congr; funext p
  obtain ⟨fl, Γ1⟩ := p
  cases fl with
  | nx =>
    show W (s' Γ1) _ = W (some ()) _
    rw [W_some, Wp_W]
  | br => show W none _ = W none _; rw [W_no, W_no]
  | ct => show W none _ = W none _; rw [W_no, W_no]
  | rt d => show W none _ = W none _; rw [W_no, W_no]
instance xw_seqP {Γ : Gm} {s s' : Sx} {QF : Fl → Gm → Prop} : Wx (sSeqP s s' Γ) QF (Wp (s Γ) fun fl Γ => W (nxOf fl) fun _ => Wp (s' Γ) QF) := ⟨fun h => Eq.mpr w_seqP h⟩
theorem w_retP {Γ : Gm} {i : Nat} {fs : Exs} {QF : Fl → Gm → Prop} : Wp (sRetP i fs Γ) QF = W (slO Γ i) fun _ => Wp (fs Γ) fun ds Γ => W (slO Γ i) fun d => QF (.rt (.tup (d :: ds))) Γ := by
  unfold sRetP slO
  generalize Γ[i]? = z
  cases z with
  | none => rw [W_no, Wp_no]
  | some x =>
    cases x with
    | own d0 =>
      show Wp ((fs Γ).bind _) _ = W (some d0) _
      rw [W_some, Wp_W, W_bind, Wp_W]
      congr; funext p
      generalize p.2[i]? = z2
      cases z2 with
      | none => show W none _ = W none _; rw [W_no, W_no]
      | some x => cases x <;> first | (show W none _ = W none _; rw [W_no, W_no]; done) | (show W (some _) _ = W (some _) _; rw [W_some, W_some])
    | _ => show Wp none _ = W none _; rw [W_no, Wp_no]
instance xw_retP {Γ : Gm} {i : Nat} {fs : Exs} {QF : Fl → Gm → Prop} : Wx (sRetP i fs Γ) QF (W (slO Γ i) fun _ => Wp (fs Γ) fun ds Γ => W (slO Γ i) fun d => QF (.rt (.tup (d :: ds))) Γ) := ⟨fun h => Eq.mpr w_retP h⟩
theorem w_powB {i j : Int} {QD : D → Prop} : W (powB (.int i) (.int j)) QD = Gd ((0 ≤ j ∧ j ≤ 1000) ∧ -1000000000000000000000000000000000000000000000000000000000000000000000000000 < i ∧ i < 1000000000000000000000000000000000000000000000000000000000000000000000000000) (QD (.int (i ^ j.toNat))) := by unfold powB; rw [W_guard, W_some]
instance xw_powB {i j : Int} {QD : D → Prop} : W1 (powB (.int i) (.int j)) QD (Gd ((0 ≤ j ∧ j ≤ 1000) ∧ -1000000000000000000000000000000000000000000000000000000000000000000000000000 < i ∧ i < 1000000000000000000000000000000000000000000000000000000000000000000000000000) (QD (.int (i ^ j.toNat)))) := ⟨fun h => Eq.mpr w_powB h⟩
theorem eqs_t {x y : Str} (h : x = y) : eqD (.str x) (.str y) = some (.bl true) := by rw [h]; exact eqD_strs _
theorem eqs_f {x y : Str} (h : (x == y) = false) : eqD (.str x) (.str y) = some (.bl false) := by rw [eqD_str, h]
theorem nes_t {x y : Str} (h : (x == y) = false) : neD (.str x) (.str y) = some (.bl true) := by rw [neD_str, h]; rfl
theorem nes_f {x y : Str} (h : x = y) : neD (.str x) (.str y) = some (.bl false) := by rw [h]; exact neD_strs _
theorem eqi_t {x y : Int} (h : x = y) : eqD (.int x) (.int y) = some (.bl true) := by rw [eqD_int, decide_eq_true h]
theorem eqi_f {x y : Int} (h : x ≠ y) : eqD (.int x) (.int y) = some (.bl false) := by rw [eqD_int, decide_eq_false h]
theorem nei_t {x y : Int} (h : x ≠ y) : neD (.int x) (.int y) = some (.bl true) := by rw [neD_int, decide_eq_false h]; rfl
theorem nei_f {x y : Int} (h : x = y) : neD (.int x) (.int y) = some (.bl false) := by rw [neD_int, decide_eq_true h]; rfl
theorem all4 (a b c d : Bool) : allD [.lst [.bl a, .bl b, .bl c, .bl d]] = some (.bl (a && (b && (c && d)))) := by cases a <;> cases b <;> cases c <;> cases d <;> rfl
theorem all3 (a b c : Bool) : allD [.lst [.bl a, .bl b, .bl c]] = some (.bl (a && (b && c))) := by cases a <;> cases b <;> cases c <;> rfl
theorem all2 (a b : Bool) : allD [.lst [.bl a, .bl b]] = some (.bl (a && b)) := by cases a <;> cases b <;> rfl
theorem all1 (a : Bool) : allD [.lst [.bl a]] = some (.bl a) := by cases a <;> rfl
theorem find_at {α : Type} {p : α → Bool} : ∀ {l : List α} {k : Nat} {x : α}, l[k]? = some x → p x = true → (∀ i, i < k → ∀ y, l[i]? = some y → p y = false) → l.find? p = some x
  | [], k, x, h, _, _ => by simp at h
  | a :: l, 0, x, h, hp, _ => by
    cases (show some a = some x from h)
    rw [List.find?_cons, hp]
  | a :: l, k + 1, x, h, hp, hb => by
    rw [List.find?_cons, hb 0 (by omega) a rfl]
    exact find_at (show l[k]? = some x from h) hp fun i hi y hy => hb (i + 1) (by omega) y hy
theorem find_no {α : Type} {p : α → Bool} {l : List α} (h : ∀ i, i < l.length → ∀ y, l[i]? = some y → p y = false) : l.find? p = none := by
  rw [List.find?_eq_none]
  intro x hx
  obtain ⟨i, hi, e⟩ := List.mem_iff_getElem.mp hx
  rw [h i hi x (by rw [List.getElem?_eq_getElem hi, e])]
  decide
theorem emp_map {α : Type} {f : α → D} {l : List α} : (l.map f).isEmpty = l.isEmpty := by cases l <;> rfl
theorem inI {x : Int} {l : List Int} : inD (.int x) (.tup (l.map D.int)) = some (.bl (decide (x ∈ l))) := by
  have g : ∀ z ∈ l.map D.int, Gr 0 z := gr_ints
  have h1 : okE (.tup (l.map D.int)) = true := (Gr.tup g).okE
  have h2 : okE (.int x) = true := okE_int x
  show (if (okE (.int x) && okE (.tup (l.map D.int))) = true then some (D.bl ((l.map D.int).any fun z => eqB z (.int x))) else none) = _
  rw [h1, h2]
  show some (D.bl ((l.map D.int).any fun z => eqB z (.int x))) = _
  congr 2
  have := Gr.any g (Gr.int x)
  by_cases h : x ∈ l
  · rw [decide_eq_true h]
    exact this.mpr (List.mem_map_of_mem h)
  · rw [decide_eq_false h]
    cases e : ((l.map D.int).any fun z => eqB z (.int x)) with
    | false => rfl
    | true =>
      have := this.mp e
      simp at this
      exact absurd this h
theorem niT_no {n : Nat} {ds : List D} {e : D} (h : ∀ x ∈ ds, Gr n x) (g : Gr n e) (he : e ∈ ds) (hn : n < 60 := by omega) : niD e (.tup ds) = some (.bl false) := by
  have h1 : okE (.tup ds) = true := (Gr.tup h).okE
  have h2 : okE e = true := g.okE
  show (if (okE e && okE (.tup ds)) = true then some (D.bl (!ds.any fun z => eqB z e)) else none) = _
  rw [h1, h2, (Gr.any h g).mpr he]
  rfl
theorem inT_yes {n : Nat} {ds : List D} {e : D} (h : ∀ x ∈ ds, Gr n x) (g : Gr n e) (he : e ∈ ds) (hn : n < 60 := by omega) : inD e (.tup ds) = some (.bl true) := by
  have h1 : okE (.tup ds) = true := (Gr.tup h).okE
  have h2 : okE e = true := g.okE
  show (if (okE e && okE (.tup ds)) = true then some (D.bl (ds.any fun z => eqB z e)) else none) = _
  rw [h1, h2, (Gr.any h g).mpr he]
  rfl
end Zd

set_option maxHeartbeats 4000000
/-! Setups, rule rows, standings of the bench, in plain Lean. -/
namespace Zd
open PySem PySem.Spec PyProof.Rows L2 Pd
structure Su where
  pews : Int
  sizes : List Int
  r0 : Int
  r1 : Int
  c0 : Int
  c1 : Int
  kinds : List Int
  life : Int
  p0 : Int
  p1 : Int
  p2 : Int
  p3 : Int
def Chc (l : List Int) (m : Int) : Prop := (∃ a, l = [a] ∧ 1 ≤ a ∧ a ≤ m) ∨ ∃ a b, l = [a, b] ∧ 1 ≤ a ∧ a < b ∧ b ≤ m
theorem Chc.len {l : List Int} {m : Int} (h : Chc l m) : 1 ≤ l.length ∧ l.length ≤ 2 := by
  rcases h with ⟨a, rfl, _⟩ | ⟨a, b, rfl, _⟩ <;> simp
theorem Chc.mem {l : List Int} {m : Int} (h : Chc l m) : ∀ x ∈ l, 1 ≤ x ∧ x ≤ m := by
  rcases h with ⟨a, rfl, h1, h2⟩ | ⟨a, b, rfl, h1, h2, h3⟩ <;> intro x hx <;> simp at hx
  · omega
  · rcases hx with rfl | rfl <;> omega
theorem Chc.mono {l : List Int} {m n : Int} (h : Chc l m) (hn : m ≤ n) : Chc l n := by
  rcases h with ⟨a, e, h1, h2⟩ | ⟨a, b, e, h1, h2, h3⟩
  · exact .inl ⟨a, e, h1, by omega⟩
  · exact .inr ⟨a, b, e, h1, h2, by omega⟩
structure SuOk (s : Su) : Prop where
  pe : 1 ≤ s.pews ∧ s.pews ≤ 4
  sz : Chc s.sizes s.pews
  r0 : 1 ≤ s.r0 ∧ s.r0 ≤ 2
  r1 : 0 ≤ s.r1 ∧ s.r1 ≤ 2
  c0 : 0 ≤ s.c0 ∧ s.c0 ≤ 1
  c1 : 0 ≤ s.c1 ∧ s.c1 ≤ 2
  ki : Chc s.kinds 4
  li : 1 ≤ s.life ∧ s.life ≤ 3
  p0 : 0 ≤ s.p0 ∧ s.p0 ≤ 5
  p1 : 0 ≤ s.p1 ∧ s.p1 ≤ 5
  p2 : 0 ≤ s.p2 ∧ s.p2 ≤ 5
  p3 : 0 ≤ s.p3 ∧ s.p3 ≤ 5
abbrev intsD (l : List Int) : D := .tup (l.map D.int)
abbrev prD (a b : Int) : D := .tup [.int a, .int b]
abbrev suD (s : Su) : D := .tup [.int s.pews, intsD s.sizes, prD s.r0 s.r1, prD s.c0 s.c1, intsD s.kinds, .int s.life, .tup [.int s.p0, .int s.p1, .int s.p2, .int s.p3]]
theorem sset2 {a b m : Int} (ha : 1 ≤ a ∧ a ≤ m) (hb : 1 ≤ b ∧ b ≤ m) : ∃ l, ssetD [.lst [.int a, .int b]] = some (.lst (l.map D.int)) ∧ Chc l m := by
  refine ⟨_, ssetD_map (ns := [a, b]) (by show 2 < 60; decide), ?_⟩
  by_cases h : a = b
  · subst h
    have e : sortI (ddI [a, a]) = [a] := by simp [ddI, sortI, insI]
    rw [e]
    exact .inl ⟨a, rfl, ha⟩
  · by_cases h2 : a < b
    · have e : sortI (ddI [a, b]) = [a, b] := by
        simp [ddI, sortI, insI, h]
        omega
      rw [e]
      exact .inr ⟨a, b, rfl, ha.1, h2, hb.2⟩
    · have e : sortI (ddI [a, b]) = [b, a] := by
        simp [ddI, sortI, insI, h]
        omega
      rw [e]
      exact .inr ⟨b, a, rfl, hb.1, by omega, ha.2⟩
/-! rows of rules -/
structure Rw where
  m : Int
  a0 : Int
  b0 : Int
  a1 : Int
  b1 : Int
  a2 : Int
  b2 : Int
  a3 : Int
  b3 : Int
  dd : Str
  n : Int
abbrev rwD (r : Rw) : D := .tup [.int r.m, prD r.a0 r.b0, prD r.a1 r.b1, prD r.a2 r.b2, prD r.a3 r.b3, .str r.dd, .int r.n]
abbrev ruD (rs : List Rw) : D := .tup (rs.map rwD)
structure RwOk (deeds : List Str) (mm : Int) (r : Rw) : Prop where
  m : 0 ≤ r.m ∧ r.m ≤ mm
  n : 0 ≤ r.n ∧ r.n ≤ mm
  x0 : 0 ≤ r.a0 ∧ r.a0 ≤ r.b0 ∧ r.b0 ≤ 9
  x1 : 0 ≤ r.a1 ∧ r.a1 ≤ r.b1 ∧ r.b1 ≤ 9
  x2 : 0 ≤ r.a2 ∧ r.a2 ≤ r.b2 ∧ r.b2 ≤ 9
  x3 : 0 ≤ r.a3 ∧ r.a3 ≤ r.b3 ∧ r.b3 ≤ 9
  dd : r.dd ∈ deeds
abbrev seatDeeds : List Str := ["group", "single", "go"]
theorem RwOk.mono {deeds : List Str} {m n : Int} {r : Rw} (h : RwOk deeds m r) (hn : m ≤ n) : RwOk deeds n r :=
  ⟨⟨h.m.1, by have := h.m.2; omega⟩, ⟨h.n.1, by have := h.n.2; omega⟩, h.x0, h.x1, h.x2, h.x3, h.dd⟩
theorem seat_deed {mm : Int} {r : Rw} (h : RwOk seatDeeds mm r) : r.dd = "group" ∨ r.dd = "single" ∨ r.dd = "go" := by
  have := h.dd
  simpa [seatDeeds] using this
/-! comers, standings, deeds, beats -/
abbrev Cm := List Int × Int
abbrev cmD (c : Cm) : D := .tup [intsD c.1, .int c.2]
structure CmOk (s : Su) (c : Cm) : Prop where
  l : (c.1.length : Int) ≤ s.c0
  g : ∀ x ∈ c.1, x ∈ s.sizes
  n : 0 ≤ c.2 ∧ c.2 ≤ s.c1
structure Stg where
  line : List Int
  sg : Int
  mood : Int
abbrev stD (t : Stg) : D := .tup [intsD t.line, .int t.sg, .int t.mood]
structure StOk (s : Su) (t : Stg) : Prop where
  l : (t.line.length : Int) ≤ s.r0
  g : ∀ x ∈ t.line, x ∈ s.sizes
  n : 0 ≤ t.sg ∧ t.sg ≤ s.r1
  m : 0 ≤ t.mood ∧ t.mood ≤ 2
def st0 : Stg := ⟨[], 0, 0⟩
abbrev ddD (x : Str × Int) : D := .tup [.str x.1, .int x.2]
abbrev ddsD (l : List (Str × Int)) : D := .tup (l.map ddD)
structure Bt where
  st : Stg
  dd : List (Str × Int)
  em : Int
  aw : Int
abbrev btD (b : Bt) : D := .tup [stD b.st, ddsD b.dd, .int b.em, .int b.aw]
abbrev tlD (b : Bt) : D := .tup [ddsD b.dd, .int b.em, .int b.aw]
def frt (l : List Int) : Int := l.headD 0
def lieB (a b x : Int) : Bool := decide (a ≤ x) && decide (x ≤ b)
def rngB (fr lf sg op : Int) (r : Rw) : Bool := lieB r.a0 r.b0 fr && (lieB r.a1 r.b1 lf && (lieB r.a2 r.b2 sg && lieB r.a3 r.b3 op))
def canB (fr lf sg : Int) (d : Str) : Bool := d == "go" || ((d == "group" && (decide (0 < fr) && decide (fr ≤ lf))) || (d == "single" && (decide (0 < sg) && decide (0 < lf))))
def fitB (m fr lf sg op : Int) (r : Rw) : Bool := decide (r.m = m) && (rngB fr lf sg op r && canB fr lf sg r.dd)
structure Fs where
  line : List Int
  sg : Int
  mood : Int
  lf : Int
  dd : List (Str × Int)
def fitS (op : Int) (t : Fs) (r : Rw) : Bool := fitB t.mood (frt t.line) t.lf t.sg op r
def grpS (t : Fs) (r : Rw) : Fs := ⟨t.line.tail, t.sg, r.n, t.lf - frt t.line, t.dd ++ [(("group" : Str), frt t.line)]⟩
def sngS (t : Fs) (r : Rw) : Fs := ⟨t.line, t.sg - 1, r.n, t.lf - 1, t.dd ++ [(("single" : Str), (1 : Int))]⟩
def goS (t : Fs) (r : Rw) : Fs := ⟨t.line, t.sg, r.n, t.lf, t.dd⟩
def fillS (rs : List Rw) (op : Int) : Nat → Fs → Fs
  | 0, t => t
  | k + 1, t => match rs.find? (fitS op t) with
    | none => t
    | some r => if r.dd = "go" then goS t r else if r.dd = "group" then fillS rs op k (grpS t r) else fillS rs op k (sngS t r)
structure FsOk (s : Su) (t : Fs) : Prop where
  l : (t.line.length : Int) ≤ s.r0
  g : ∀ x ∈ t.line, x ∈ s.sizes
  n : 0 ≤ t.sg ∧ t.sg ≤ s.r1
  m : 0 ≤ t.mood ∧ t.mood ≤ 2
  f : 0 ≤ t.lf ∧ t.lf ≤ s.pews
  d : t.dd.length + t.lf ≤ s.pews
theorem fit_can {op : Int} {t : Fs} {r : Rw} (h : fitS op t r = true) : canB (frt t.line) t.lf t.sg r.dd = true := by
  unfold fitS fitB at h
  simp only [Bool.and_eq_true] at h
  exact h.2.2
theorem can_grp {fr lf sg : Int} (h : canB fr lf sg "group" = true) : 0 < fr ∧ fr ≤ lf := by
  have e1 : (("group" : Str) == "go") = false := by decide +kernel
  have e2 : (("group" : Str) == "single") = false := by decide +kernel
  have e3 : (("group" : Str) == "group") = true := by decide +kernel
  unfold canB at h
  rw [e1, e2, e3] at h
  simpa using h
theorem can_sng {fr lf sg : Int} (h : canB fr lf sg "single" = true) : 0 < sg ∧ 0 < lf := by
  have e1 : (("single" : Str) == "go") = false := by decide +kernel
  have e2 : (("single" : Str) == "group") = false := by decide +kernel
  have e3 : (("single" : Str) == "single") = true := by decide +kernel
  unfold canB at h
  rw [e1, e2, e3] at h
  simpa using h
theorem frt_pos {l : List Int} (h : 0 < frt l) : ∃ a m, l = a :: m ∧ frt l = a := by
  cases l with
  | nil => exact absurd h (by decide)
  | cons a m => exact ⟨a, m, rfl, rfl⟩
theorem grp_ok {s : Su} {t : Fs} {r : Rw} {op mm : Int} (h : FsOk s t) (hr : RwOk seatDeeds mm r) (hm : mm ≤ 2) (hf : fitS op t r = true) (hd : r.dd = "group") : FsOk s (grpS t r) ∧ (grpS t r).lf < t.lf ∧ 0 < frt t.line ∧ frt t.line ≤ t.lf := by
  have c := fit_can hf
  rw [hd] at c
  obtain ⟨c1, c2⟩ := can_grp c
  obtain ⟨a, m, e, e2⟩ := frt_pos c1
  have g := h.g
  have l := h.l
  have d := h.d
  have f := h.f
  have n := hr.n
  rw [e] at g l
  rw [List.length_cons] at l
  refine ⟨⟨?_, ?_, h.n, ?_, ?_, ?_⟩, ?_, c1, c2⟩
  · show (t.line.tail.length : Int) ≤ s.r0
    rw [e]
    simp only [List.tail_cons]
    omega
  · intro x hx
    have hx : x ∈ t.line.tail := hx
    rw [e] at hx
    exact g x (List.mem_cons_of_mem _ hx)
  · exact ⟨hr.n.1, by show r.n ≤ 2; omega⟩
  · show 0 ≤ t.lf - frt t.line ∧ t.lf - frt t.line ≤ s.pews
    omega
  · show ((t.dd ++ [(("group" : Str), frt t.line)]).length : Int) + (t.lf - frt t.line) ≤ s.pews
    rw [List.length_append, List.length_singleton]
    omega
  · show t.lf - frt t.line < t.lf
    omega
theorem sng_ok {s : Su} {t : Fs} {r : Rw} {op mm : Int} (h : FsOk s t) (hr : RwOk seatDeeds mm r) (hm : mm ≤ 2) (hf : fitS op t r = true) (hd : r.dd = "single") : FsOk s (sngS t r) ∧ (sngS t r).lf < t.lf ∧ 0 < t.sg ∧ 0 < t.lf := by
  have c := fit_can hf
  rw [hd] at c
  obtain ⟨c1, c2⟩ := can_sng c
  have d := h.d
  have f := h.f
  have n := hr.n
  have sn := h.n
  refine ⟨⟨h.l, h.g, ?_, ?_, ?_, ?_⟩, ?_, c1, c2⟩
  · show 0 ≤ t.sg - 1 ∧ t.sg - 1 ≤ s.r1
    omega
  · exact ⟨hr.n.1, by show r.n ≤ 2; omega⟩
  · show 0 ≤ t.lf - 1 ∧ t.lf - 1 ≤ s.pews
    omega
  · show ((t.dd ++ [(("single" : Str), (1 : Int))]).length : Int) + (t.lf - 1) ≤ s.pews
    rw [List.length_append, List.length_singleton]
    omega
  · show t.lf - 1 < t.lf
    omega
theorem go_ok {s : Su} {t : Fs} {r : Rw} {mm : Int} (h : FsOk s t) (hr : RwOk seatDeeds mm r) (hm : mm ≤ 2) : FsOk s (goS t r) :=
  ⟨h.l, h.g, h.n, ⟨hr.n.1, by have := hr.n.2; show r.n ≤ 2; omega⟩, h.f, h.d⟩
theorem fill_ok {s : Su} {rs : List Rw} {op mm : Int} (hr : ∀ r ∈ rs, RwOk seatDeeds mm r) (hm : mm ≤ 2) : ∀ (k : Nat) (t : Fs), FsOk s t → FsOk s (fillS rs op k t)
  | 0, t, h => h
  | k + 1, t, h => by
    rw [fillS]
    cases e : rs.find? (fitS op t) with
    | none => exact h
    | some r =>
      have r1 := hr r (List.mem_of_find?_eq_some e)
      have r2 := List.find?_some e
      show FsOk s (if r.dd = "go" then goS t r else if r.dd = "group" then fillS rs op k (grpS t r) else fillS rs op k (sngS t r))
      rcases seat_deed r1 with d | d | d
      · rw [if_neg (by rw [d]; decide +kernel), if_pos d]
        exact fill_ok hr hm k _ (grp_ok h r1 hm r2 d).1
      · rw [if_neg (by rw [d]; decide +kernel), if_neg (by rw [d]; decide +kernel)]
        exact fill_ok hr hm k _ (sng_ok h r1 hm r2 d).1
      · rw [if_pos d]
        exact go_ok h r1 hm
def comeL (r0 : Int) (gs : List Int) (l : List Int) (a : Int) : List Int × Int := gs.foldl (fun p g => if (p.1.length : Int) < r0 then (p.1 ++ [g], p.2) else (p.1, p.2 + g)) (l, a)
def minZ (a b : Int) : Int := if b < a then b else a
def beat (s : Su) (rs : List Rw) (t : Stg) (c : Cm) (op : Int) : Bt :=
  let p := comeL s.r0 c.1 t.line 0
  let i := minZ s.r1 (t.sg + c.2)
  let f := fillS rs op (s.pews.toNat + 1) ⟨p.1, i, t.mood, s.pews, []⟩
  ⟨⟨f.line, f.sg, f.mood⟩, f.dd, if f.line ≠ [] ∨ 0 < f.sg then f.lf else 0, p.2 + t.sg + c.2 - i⟩
def beats (s : Su) (rs : List Rw) : Stg → List Cm → List Bt
  | _, [] => []
  | t, c :: cs => beat s rs t c 0 :: beats s rs (beat s rs t c 0).st cs
def aft (s : Su) (rs : List Rw) : Stg → List Cm → Stg
  | t, [] => t
  | t, c :: cs => aft s rs (beat s rs t c 0).st cs
theorem comeL_cons {r0 g : Int} {gs l : List Int} {a : Int} : comeL r0 (g :: gs) l a = if (l.length : Int) < r0 then comeL r0 gs (l ++ [g]) a else comeL r0 gs l (a + g) := by
  unfold comeL
  rw [List.foldl_cons]
  by_cases h : (l.length : Int) < r0
  · rw [if_pos h, if_pos h]
  · rw [if_neg h, if_neg h]
theorem comeL_ok {r0 : Int} {P : Int → Prop} : ∀ {gs l : List Int} {a : Int}, (l.length : Int) ≤ r0 → (∀ x ∈ l, P x) → (∀ x ∈ gs, P x) → ((comeL r0 gs l a).1.length : Int) ≤ r0 ∧ ∀ x ∈ (comeL r0 gs l a).1, P x
  | [], l, a, h1, h2, _ => ⟨h1, h2⟩
  | g :: gs, l, a, h1, h2, h3 => by
    rw [comeL_cons]
    by_cases h : (l.length : Int) < r0
    · rw [if_pos h]
      refine comeL_ok (by rw [List.length_append, List.length_singleton]; omega) (fun x hx => ?_) fun x hx => h3 x (List.mem_cons_of_mem _ hx)
      rcases List.mem_append.mp hx with hx | hx
      · exact h2 x hx
      · cases List.mem_singleton.mp hx
        exact h3 _ (List.mem_cons_self ..)
    · rw [if_neg h]
      exact comeL_ok h1 h2 fun x hx => h3 x (List.mem_cons_of_mem _ hx)
def fs0 (s : Su) (t : Stg) (c : Cm) : Fs := ⟨(comeL s.r0 c.1 t.line 0).1, minZ s.r1 (t.sg + c.2), t.mood, s.pews, []⟩
theorem fs0_ok {s : Su} {t : Stg} {c : Cm} (hs : SuOk s) (ht : StOk s t) (hc : CmOk s c) : FsOk s (fs0 s t c) := by
  obtain ⟨a, b⟩ := comeL_ok (r0 := s.r0) (P := fun x => x ∈ s.sizes) (a := 0) ht.l ht.g hc.g
  have := hs.pe
  have := hs.r1
  have := ht.n
  have := hc.n
  refine ⟨a, b, ?_, ht.m, ?_, ?_⟩
  · show 0 ≤ minZ s.r1 (t.sg + c.2) ∧ minZ s.r1 (t.sg + c.2) ≤ s.r1
    unfold minZ
    split <;> omega
  · show 0 ≤ s.pews ∧ s.pews ≤ s.pews
    omega
  · show (([] : List (Str × Int)).length : Int) + s.pews ≤ s.pews
    simp
def filled (s : Su) (rs : List Rw) (t : Stg) (c : Cm) (op : Int) : Fs := fillS rs op (s.pews.toNat + 1) (fs0 s t c)
theorem beat_eq {s : Su} {rs : List Rw} {t : Stg} {c : Cm} {op : Int} : beat s rs t c op = ⟨⟨(filled s rs t c op).line, (filled s rs t c op).sg, (filled s rs t c op).mood⟩, (filled s rs t c op).dd, if (filled s rs t c op).line ≠ [] ∨ 0 < (filled s rs t c op).sg then (filled s rs t c op).lf else 0, (comeL s.r0 c.1 t.line 0).2 + t.sg + c.2 - minZ s.r1 (t.sg + c.2)⟩ := rfl
theorem filled_ok {s : Su} {rs : List Rw} {t : Stg} {c : Cm} {op mm : Int} (hs : SuOk s) (ht : StOk s t) (hc : CmOk s c) (hr : ∀ r ∈ rs, RwOk seatDeeds mm r) (hm : mm ≤ 2) : FsOk s (filled s rs t c op) := fill_ok hr hm _ _ (fs0_ok hs ht hc)
theorem beat_st {s : Su} {rs : List Rw} {t : Stg} {c : Cm} {op mm : Int} (hs : SuOk s) (ht : StOk s t) (hc : CmOk s c) (hr : ∀ r ∈ rs, RwOk seatDeeds mm r) (hm : mm ≤ 2) : StOk s (beat s rs t c op).st := by
  have h := filled_ok (op := op) hs ht hc hr hm
  exact ⟨h.l, h.g, h.n, h.m⟩
theorem st0_ok {s : Su} (hs : SuOk s) : StOk s st0 := by
  have := hs.r0
  have := hs.r1
  refine ⟨?_, (fun x h => by cases h), ?_, ?_⟩
  · show ((0 : Nat) : Int) ≤ _; omega
  · show 0 ≤ 0 ∧ 0 ≤ s.r1; omega
  · show (0 : Int) ≤ 0 ∧ (0 : Int) ≤ 2; decide
theorem beats_len (s : Su) (rs : List Rw) : ∀ (t : Stg) (cs : List Cm), (beats s rs t cs).length = cs.length
  | _, [] => rfl
  | t, c :: cs => by rw [beats, List.length_cons, beats_len s rs _ cs, List.length_cons]
theorem beats_app (s : Su) (rs : List Rw) : ∀ (t : Stg) (cs ds : List Cm), beats s rs t (cs ++ ds) = beats s rs t cs ++ beats s rs (aft s rs t cs) ds
  | t, [], ds => rfl
  | t, c :: cs, ds => by
    rw [List.cons_append, beats, beats, List.cons_append, aft, beats_app s rs _ cs ds]
theorem aft_app (s : Su) (rs : List Rw) : ∀ (t : Stg) (cs ds : List Cm), aft s rs t (cs ++ ds) = aft s rs (aft s rs t cs) ds
  | t, [], ds => rfl
  | t, c :: cs, ds => by rw [List.cons_append, aft, aft, aft_app s rs _ cs ds]
theorem beats_snoc (s : Su) (rs : List Rw) (t : Stg) (cs : List Cm) (c : Cm) : beats s rs t (cs ++ [c]) = beats s rs t cs ++ [beat s rs (aft s rs t cs) c 0] := by rw [beats_app, beats, beats]
theorem aft_snoc (s : Su) (rs : List Rw) (t : Stg) (cs : List Cm) (c : Cm) : aft s rs t (cs ++ [c]) = (beat s rs (aft s rs t cs) c 0).st := by rw [aft_app, aft, aft]
theorem aft_ok {s : Su} {rs : List Rw} {mm : Int} (hs : SuOk s) (hr : ∀ r ∈ rs, RwOk seatDeeds mm r) (hm : mm ≤ 2) : ∀ {t : Stg} {cs : List Cm}, StOk s t → (∀ c ∈ cs, CmOk s c) → StOk s (aft s rs t cs)
  | t, [], ht, _ => ht
  | t, c :: cs, ht, hc => by
    rw [aft]
    exact aft_ok hs hr hm (beat_st hs ht (hc c (List.mem_cons_self ..)) hr hm) fun x hx => hc x (List.mem_cons_of_mem _ hx)
theorem beats_last (s : Su) (rs : List Rw) (t : Stg) (cs : List Cm) (h : cs ≠ []) : ∃ b, (beats s rs t cs)[(beats s rs t cs).length - 1]? = some b ∧ b.st = aft s rs t cs := by
  obtain ⟨c, ds, e⟩ : ∃ c ds, cs = ds ++ [c] := ⟨cs.getLast h, cs.dropLast, (List.dropLast_concat_getLast h).symm⟩
  subst e
  rw [beats_snoc, aft_snoc]
  refine ⟨_, by rw [List.length_append, List.length_singleton, Nat.add_sub_cancel]; simp, rfl⟩
theorem beats_take (s : Su) (rs : List Rw) : ∀ (t : Stg) (cs : List Cm) (n : Nat), beats s rs t (cs.take n) = (beats s rs t cs).take n
  | _, [], n => by rw [List.take_nil, beats, List.take_nil]
  | _, _ :: _, 0 => rfl
  | t, c :: cs, n + 1 => by
    rw [List.take_succ_cons, beats, beats, List.take_succ_cons, beats_take s rs _ cs n]
/-! moods exchanged; a row that never fits -/
def swm (x : Int) : Int := if x = 1 then 2 else if x = 2 then 1 else x
def swR (r : Rw) : Rw := { r with m := swm r.m, n := swm r.n }
def swF (t : Fs) : Fs := { t with mood := swm t.mood }
def swT (t : Stg) : Stg := { t with mood := swm t.mood }
theorem swm_inj {x y : Int} : (swm x = swm y) ↔ x = y := by
  unfold swm
  repeat' split
  all_goals omega
theorem fit_sw {op : Int} {t : Fs} {r : Rw} : fitS op (swF t) (swR r) = fitS op t r := by
  show (decide (swm r.m = swm t.mood) && _) = (decide (r.m = t.mood) && _)
  congr 1
  exact decide_eq_decide.mpr swm_inj
theorem find_map {α β : Type} {f : α → β} {p : β → Bool} : ∀ l : List α, (l.map f).find? p = (l.find? fun x => p (f x)).map f
  | [] => rfl
  | a :: l => by
    rw [List.map_cons, List.find?_cons, List.find?_cons, find_map l]
    cases p (f a) <;> rfl
theorem fill_sw {rs : List Rw} {op : Int} : ∀ (k : Nat) (t : Fs), fillS (rs.map swR) op k (swF t) = swF (fillS rs op k t)
  | 0, _ => rfl
  | k + 1, t => by
    rw [fillS, fillS, find_map]
    have e : (fun x => fitS op (swF t) (swR x)) = fitS op t := by funext r; exact fit_sw
    rw [e]
    cases rs.find? (fitS op t) with
    | none => rfl
    | some r =>
      show (if r.dd = "go" then goS (swF t) (swR r) else if r.dd = "group" then fillS (rs.map swR) op k (grpS (swF t) (swR r)) else fillS (rs.map swR) op k (sngS (swF t) (swR r))) = swF (if r.dd = "go" then goS t r else if r.dd = "group" then fillS rs op k (grpS t r) else fillS rs op k (sngS t r))
      by_cases h1 : r.dd = "go"
      · rw [if_pos h1, if_pos h1]; rfl
      · rw [if_neg h1, if_neg h1]
        by_cases h2 : r.dd = "group"
        · rw [if_pos h2, if_pos h2]
          exact fill_sw k (grpS t r)
        · rw [if_neg h2, if_neg h2]
          exact fill_sw k (sngS t r)
def swB (b : Bt) : Bt := { b with st := swT b.st }
theorem beat_sw {s : Su} {rs : List Rw} {t : Stg} {c : Cm} {op : Int} : beat s (rs.map swR) (swT t) c op = swB (beat s rs t c op) := by
  have e : filled s (rs.map swR) (swT t) c op = swF (filled s rs t c op) := fill_sw _ (fs0 s t c)
  rw [beat_eq, beat_eq, e]
  rfl
theorem beats_sw {s : Su} {rs : List Rw} : ∀ {t : Stg} {cs : List Cm}, beats s (rs.map swR) (swT t) cs = (beats s rs t cs).map swB
  | _, [] => rfl
  | t, c :: cs => by
    rw [beats, beats, List.map_cons, beat_sw]
    congr 1
    exact beats_sw
theorem aft_sw {s : Su} {rs : List Rw} : ∀ {t : Stg} {cs : List Cm}, aft s (rs.map swR) (swT t) cs = swT (aft s rs t cs)
  | _, [] => rfl
  | t, c :: cs => by
    rw [aft, aft, beat_sw]
    exact aft_sw
def Nev (r : Rw) : Prop := 4 < r.a0
theorem frt_le {s : Su} {t : Fs} (hs : SuOk s) (h : FsOk s t) : frt t.line ≤ 4 := by
  have hp := hs.pe
  cases e : t.line with
  | nil => show (0 : Int) ≤ 4; decide
  | cons a l =>
    have := hs.sz.mem a (h.g a (by rw [e]; exact List.mem_cons_self ..))
    show a ≤ 4
    omega
theorem nev_fit {s : Su} {t : Fs} {r : Rw} {op : Int} (hs : SuOk s) (h : FsOk s t) (hr : Nev r) : fitS op t r = false := by
  have h1 := frt_le hs h
  have h2 : lieB r.a0 r.b0 (frt t.line) = false := by
    unfold lieB
    rw [decide_eq_false (by unfold Nev at hr; omega)]
    rfl
  unfold fitS fitB rngB
  rw [h2]
  simp
theorem fill_nev {s : Su} {rs : List Rw} {n : Rw} {op mm : Int} (hs : SuOk s) (hn : Nev n) (hr : ∀ r ∈ rs, RwOk seatDeeds mm r) (hm : mm ≤ 2) : ∀ (k : Nat) (t : Fs), FsOk s t → fillS (rs ++ [n]) op k t = fillS rs op k t
  | 0, _, _ => rfl
  | k + 1, t, h => by
    have e : (rs ++ [n]).find? (fitS op t) = rs.find? (fitS op t) := by
      rw [List.find?_append, List.find?_cons, nev_fit hs h hn]
      cases rs.find? (fitS op t) <;> rfl
    rw [fillS, fillS, e]
    cases e2 : rs.find? (fitS op t) with
    | none => rfl
    | some r =>
      have r1 := hr r (List.mem_of_find?_eq_some e2)
      have r2 := List.find?_some e2
      show (if r.dd = "go" then goS t r else if r.dd = "group" then fillS (rs ++ [n]) op k (grpS t r) else fillS (rs ++ [n]) op k (sngS t r)) = if r.dd = "go" then goS t r else if r.dd = "group" then fillS rs op k (grpS t r) else fillS rs op k (sngS t r)
      by_cases h1 : r.dd = "go"
      · rw [if_pos h1, if_pos h1]
      · rw [if_neg h1, if_neg h1]
        by_cases h2 : r.dd = "group"
        · rw [if_pos h2, if_pos h2]
          exact fill_nev hs hn hr hm k _ (grp_ok h r1 hm r2 h2).1
        · rw [if_neg h2, if_neg h2]
          have h3 : r.dd = "single" := by rcases seat_deed r1 with d | d | d; exact absurd d h2; exact d; exact absurd d h1
          exact fill_nev hs hn hr hm k _ (sng_ok h r1 hm r2 h3).1
theorem beats_nev {s : Su} {rs : List Rw} {n : Rw} {mm : Int} (hs : SuOk s) (hn : Nev n) (hr : ∀ r ∈ rs, RwOk seatDeeds mm r) (hm : mm ≤ 2) : ∀ {t : Stg} {cs : List Cm}, StOk s t → (∀ c ∈ cs, CmOk s c) → beats s (rs ++ [n]) t cs = beats s rs t cs
  | _, [], _, _ => rfl
  | t, c :: cs, ht, hc => by
    have hc1 := hc c (List.mem_cons_self ..)
    have e : beat s (rs ++ [n]) t c 0 = beat s rs t c 0 := by
      rw [beat_eq, beat_eq]
      have : filled s (rs ++ [n]) t c 0 = filled s rs t c 0 := fill_nev hs hn hr hm _ _ (fs0_ok hs ht hc1)
      rw [this]
    rw [beats, beats, e, beats_nev hs hn hr hm (beat_st hs ht hc1 hr hm) fun x hx => hc x (List.mem_cons_of_mem _ hx)]
end Zd

set_option maxHeartbeats 4000000
/-! Tubs and the whole house, in plain Lean. -/
namespace Zd
open PySem PySem.Spec PyProof.Rows L2 Pd
abbrev tubDeeds : List Str := ["small", "great", "rest"]
theorem tub_deed {mm : Int} {r : Rw} (h : RwOk tubDeeds mm r) : r.dd = "small" ∨ r.dd = "great" ∨ r.dd = "rest" := by
  have := h.dd
  simpa [tubDeeds] using this
abbrev Tb := List (Int × Int)
abbrev tubD (x : Int × Int) : D := prD x.1 x.2
abbrev tubsD (l : Tb) : D := .tup (l.map tubD)
def por (l : Tb) : Int := (l.map Prod.snd).sum
def tage : Tb → Int
  | [] => 9
  | x :: _ => x.1
def tcanB (l : Tb) (d : Str) : Bool := d == "rest" || decide (l.length < 2)
def tfitB (m as w : Int) (l : Tb) (r : Rw) : Bool := decide (r.m = m) && (rngB as (por l) (tage l) w r && tcanB l r.dd)
def tubKind (s : Su) (d : Str) : Int := if d = "small" then s.kinds.headD 0 else s.kinds.getLastD 0
def topen (s : Su) (rs : List Rw) (as w : Int) : Nat → Tb × Int → Tb × Int
  | 0, t => t
  | k + 1, t => match rs.find? (tfitB t.2 as w t.1) with
    | none => t
    | some r => if r.dd = "rest" then (t.1, r.n) else topen s rs as w k (t.1 ++ [(0, tubKind s r.dd)], r.n)
structure TbOk (s : Su) (tb : Tb) : Prop where
  l : tb.length ≤ 2
  a : ∀ x ∈ tb, 0 ≤ x.1 ∧ x.1 < s.life ∧ 1 ≤ x.2 ∧ x.2 ≤ 4
theorem kind_ok {s : Su} (hs : SuOk s) (d : Str) : 1 ≤ tubKind s d ∧ tubKind s d ≤ 4 := by
  unfold tubKind
  rcases hs.ki with ⟨a, e, h1, h2⟩ | ⟨a, b, e, h1, h2, h3⟩ <;> rw [e] <;> split <;> simp <;> omega
theorem tfit_can {m as w : Int} {l : Tb} {r : Rw} (h : tfitB m as w l r = true) : tcanB l r.dd = true := by
  unfold tfitB at h
  simp only [Bool.and_eq_true] at h
  exact h.2.2
theorem tcan_len {l : Tb} {d : Str} (h : tcanB l d = true) (hd : d ≠ "rest") : l.length < 2 := by
  unfold tcanB at h
  have : (d == "rest") = false := by simpa using hd
  rw [this] at h
  simpa using h
theorem open_ok {s : Su} {l : Tb} (hs : SuOk s) (h : TbOk s l) (hl : l.length < 2) (d : Str) : TbOk s (l ++ [(0, tubKind s d)]) := by
  have := hs.li
  have := kind_ok hs d
  refine ⟨by rw [List.length_append, List.length_singleton]; omega, fun x hx => ?_⟩
  rcases List.mem_append.mp hx with hx | hx
  · exact h.a x hx
  · cases List.mem_singleton.mp hx
    exact ⟨Int.le_refl _, by show (0 : Int) < s.life; omega, this⟩
theorem topen_ok {s : Su} {rs : List Rw} {as w mm : Int} (hs : SuOk s) (hr : ∀ r ∈ rs, RwOk tubDeeds mm r) (hm : mm ≤ 2) : ∀ (k : Nat) (t : Tb × Int), TbOk s t.1 → (0 ≤ t.2 ∧ t.2 ≤ 2) → TbOk s (topen s rs as w k t).1 ∧ (0 ≤ (topen s rs as w k t).2 ∧ (topen s rs as w k t).2 ≤ 2) ∧ ∃ os : List Int, (topen s rs as w k t).1 = t.1 ++ os.map (fun x => (0, x)) ∧ ∀ x ∈ os, 1 ≤ x ∧ x ≤ 4
  | 0, t, h, h2 => ⟨h, h2, [], by simp [topen], fun x hx => by cases hx⟩
  | k + 1, t, h, h2 => by
    rw [topen]
    cases e : rs.find? (tfitB t.2 as w t.1) with
    | none => exact ⟨h, h2, [], by simp, fun x hx => by cases hx⟩
    | some r =>
      have r1 := hr r (List.mem_of_find?_eq_some e)
      have r2 := tfit_can (List.find?_some e)
      have hn := r1.n
      show TbOk s (if r.dd = "rest" then (t.1, r.n) else topen s rs as w k (t.1 ++ [(0, tubKind s r.dd)], r.n)).1 ∧ _
      by_cases hd : r.dd = "rest"
      · simp only [if_pos hd]
        exact ⟨h, ⟨hn.1, by omega⟩, [], by simp, fun x hx => by cases hx⟩
      · simp only [if_neg hd]
        obtain ⟨o1, o2, os, o3, o4⟩ := topen_ok hs hr hm k (t.1 ++ [(0, tubKind s r.dd)], r.n) (open_ok hs h (tcan_len r2 hd) _) ⟨hn.1, by show r.n ≤ 2; omega⟩
        refine ⟨o1, o2, tubKind s r.dd :: os, ?_, fun x hx => ?_⟩
        · rw [o3]; simp
        · rcases List.mem_cons.mp hx with rfl | hx
          · exact kind_ok hs _
          · exact o4 x hx
/-! serving -/
def srv (life : Int) : Tb → Int → Tb × Int × Int
  | [], l => ([], l, 0)
  | (a, p) :: ts, l =>
    let e := minZ l p
    let r := srv life ts (l - e)
    if a + 1 = life then (r.1, r.2.1, (p - e) + r.2.2) else if e < p then ((a + 1, p - e) :: r.1, r.2.1, r.2.2) else r
theorem srv_ok {life : Int} : ∀ {ts : Tb} {l : Int}, 0 ≤ l → (∀ x ∈ ts, 0 ≤ x.1 ∧ x.1 < life ∧ 1 ≤ x.2 ∧ x.2 ≤ 4) →
    (srv life ts l).1.length ≤ ts.length ∧ (∀ x ∈ (srv life ts l).1, 0 ≤ x.1 ∧ x.1 < life ∧ 1 ≤ x.2 ∧ x.2 ≤ 4) ∧ (0 ≤ (srv life ts l).2.1 ∧ (srv life ts l).2.1 ≤ l) ∧ 0 ≤ (srv life ts l).2.2 ∧ (srv life ts l).2.2 ≤ 4 * ts.length
  | [], l, h, _ => ⟨Nat.le_refl _, (fun x hx => by cases hx), ⟨h, Int.le_refl _⟩, Int.le_refl _, by simp [srv]⟩
  | (a, p) :: ts, l, h, hx => by
    have h0 := hx (a, p) (List.mem_cons_self ..)
    have hz : 0 ≤ minZ l p ∧ minZ l p ≤ l ∧ minZ l p ≤ p := by unfold minZ; split <;> (simp at h0; omega)
    obtain ⟨o1, o2, o3, o4, o5⟩ := srv_ok (life := life) (ts := ts) (l := l - minZ l p) (by omega) fun x hx2 => hx x (List.mem_cons_of_mem _ hx2)
    simp at h0
    rw [srv]
    by_cases h1 : a + 1 = life
    · simp only [if_pos h1, List.length_cons]
      exact ⟨by omega, o2, by omega, by omega, by push_cast; omega⟩
    · simp only [if_neg h1]
      by_cases h2 : minZ l p < p
      · simp only [if_pos h2, List.length_cons]
        refine ⟨by omega, fun x hx2 => ?_, by omega, o4, by push_cast; omega⟩
        rcases List.mem_cons.mp hx2 with rfl | hx2
        · exact ⟨by show 0 ≤ a + 1; omega, by show a + 1 < life; omega, by show 1 ≤ p - minZ l p; omega, by show p - minZ l p ≤ 4; omega⟩
        · exact o2 x hx2
      · simp only [if_neg h2, List.length_cons]
        exact ⟨by omega, o2, by omega, o4, by push_cast; omega⟩
/-! a beat of the tubs -/
structure Tt where
  op : List Int
  ea : Int
  un : Int
  me : Int
  tb : Tb
  md : Int
def tbeat (s : Su) (rs : List Rw) (l : Tb) (m as w : Int) : Tt :=
  let o := topen s rs as w 3 (l, m)
  let r := srv s.life o.1 as
  ⟨(o.1.drop l.length).map Prod.snd, as - r.2.1, as - (as - r.2.1), r.2.2, r.1, o.2⟩
structure TtOk (s : Su) (t : Tt) : Prop where
  o : ∀ x ∈ t.op, 1 ≤ x ∧ x ≤ 4
  ol : t.op.length ≤ 2
  ea : 0 ≤ t.ea ∧ t.ea ≤ 4
  un : 0 ≤ t.un ∧ t.un ≤ 4
  me : 0 ≤ t.me ∧ t.me ≤ 8
  tb : TbOk s t.tb
  md : 0 ≤ t.md ∧ t.md ≤ 2
theorem tbeat_ok {s : Su} {rs : List Rw} {l : Tb} {m as w mm : Int} (hs : SuOk s) (hr : ∀ r ∈ rs, RwOk tubDeeds mm r) (hmm : mm ≤ 2) (hl : TbOk s l) (hm : 0 ≤ m ∧ m ≤ 2) (ha : 0 ≤ as ∧ as ≤ 4) : TtOk s (tbeat s rs l m as w) := by
  obtain ⟨o1, o2, os, o3, o4⟩ := topen_ok (as := as) (w := w) hs hr hmm 3 (l, m) hl hm
  obtain ⟨q1, q2, q3, q4, q5⟩ := srv_ok (life := s.life) (l := as) ha.1 o1.a
  have hll := o1.l
  have e : ((topen s rs as w 3 (l, m)).1.drop l.length).map Prod.snd = os := by
    rw [o3]
    simp [List.map_map, Function.comp_def]
  have hol : os.length ≤ 2 := by rw [o3] at hll; simp at hll; omega
  refine ⟨?_, ?_, ?_, ?_, ?_, ⟨by show (srv s.life _ as).1.length ≤ 2; omega, q2⟩, o2⟩
  · show ∀ x ∈ ((topen s rs as w 3 (l, m)).1.drop l.length).map Prod.snd, _
    rw [e]; exact o4
  · show (((topen s rs as w 3 (l, m)).1.drop l.length).map Prod.snd).length ≤ 2
    rw [e]; exact hol
  · show 0 ≤ as - _ ∧ as - _ ≤ 4; omega
  · show 0 ≤ as - (as - _) ∧ as - (as - _) ≤ 4; omega
  · show 0 ≤ (srv s.life _ as).2.2 ∧ (srv s.life _ as).2.2 ≤ 8; omega
/-! the house -/
structure Hs where
  line : List Int
  sg : Int
  tb : Tb
  m0 : Int
  m1 : Int
structure Bl where
  dd : List (Str × Int)
  em : Int
  aw : Int
  op : List Int
  ea : Int
  un : Int
  me : Int
abbrev hsD (h : Hs) : D := .tup [intsD h.line, .int h.sg, tubsD h.tb, prD h.m0 h.m1]
abbrev blD (b : Bl) : D := .tup [ddsD b.dd, .int b.em, .int b.aw, intsD b.op, .int b.ea, .int b.un, .int b.me]
def hs0 : Hs := ⟨[], 0, [], 0, 0⟩
structure HsOk (s : Su) (h : Hs) : Prop where
  st : StOk s ⟨h.line, h.sg, h.m0⟩
  tb : TbOk s h.tb
  m1 : 0 ≤ h.m1 ∧ h.m1 ≤ 2
def sat (l : List (Str × Int)) : Int := (l.map Prod.snd).sum
def hbt (s : Su) (rs : List Rw) (h : Hs) (c : Cm) : Bt := beat s rs ⟨h.line, h.sg, h.m0⟩ c (por h.tb)
def htt (s : Su) (rs ts : List Rw) (h : Hs) (c : Cm) : Tt := tbeat s ts h.tb h.m1 (sat (hbt s rs h c).dd) ((hbt s rs h c).st.line.length + (hbt s rs h c).st.sg)
def hbill (s : Su) (rs ts : List Rw) (h : Hs) (c : Cm) : Bl := ⟨(hbt s rs h c).dd, (hbt s rs h c).em, (hbt s rs h c).aw, (htt s rs ts h c).op, (htt s rs ts h c).ea, (htt s rs ts h c).un, (htt s rs ts h c).me⟩
def hnext (s : Su) (rs ts : List Rw) (h : Hs) (c : Cm) : Hs := ⟨(hbt s rs h c).st.line, (hbt s rs h c).st.sg, (htt s rs ts h c).tb, (hbt s rs h c).st.mood, (htt s rs ts h c).md⟩
def hbills (s : Su) (rs ts : List Rw) : Hs → List Cm → List Bl
  | _, [] => []
  | h, c :: cs => hbill s rs ts h c :: hbills s rs ts (hnext s rs ts h c) cs
def haft (s : Su) (rs ts : List Rw) : Hs → List Cm → Hs
  | h, [] => h
  | h, c :: cs => haft s rs ts (hnext s rs ts h c) cs
theorem hbills_len (s : Su) (rs ts : List Rw) : ∀ (h : Hs) (cs : List Cm), (hbills s rs ts h cs).length = cs.length
  | _, [] => rfl
  | h, c :: cs => by rw [hbills, List.length_cons, hbills_len s rs ts _ cs, List.length_cons]
theorem hbills_snoc (s : Su) (rs ts : List Rw) : ∀ (h : Hs) (cs : List Cm) (c : Cm), hbills s rs ts h (cs ++ [c]) = hbills s rs ts h cs ++ [hbill s rs ts (haft s rs ts h cs) c]
  | h, [], c => rfl
  | h, d :: cs, c => by rw [List.cons_append, hbills, hbills, hbills_snoc s rs ts _ cs c, haft]; rfl
theorem haft_snoc (s : Su) (rs ts : List Rw) : ∀ (h : Hs) (cs : List Cm) (c : Cm), haft s rs ts h (cs ++ [c]) = hnext s rs ts (haft s rs ts h cs) c
  | h, [], c => rfl
  | h, d :: cs, c => by rw [List.cons_append, haft, haft, haft_snoc s rs ts _ cs c]
theorem hbills_take (s : Su) (rs ts : List Rw) : ∀ (h : Hs) (cs : List Cm) (n : Nat), hbills s rs ts h (cs.take n) = (hbills s rs ts h cs).take n
  | _, [], n => by rw [List.take_nil, hbills, List.take_nil]
  | _, _ :: _, 0 => rfl
  | h, c :: cs, n + 1 => by rw [List.take_succ_cons, hbills, hbills, List.take_succ_cons, hbills_take s rs ts _ cs n]
/-! how much sits: the deeds of a filling -/
def dds (l : List (Str × Int)) (n : Int) : Prop := (∀ x ∈ l, 0 ≤ x.2 ∧ x.2 ≤ 4 ∧ (x.1 = "group" ∨ x.1 = "single")) ∧ sat l = n
theorem sat_snoc (l : List (Str × Int)) (x : Str × Int) : sat (l ++ [x]) = sat l + x.2 := by simp [sat]
theorem fill_dd {s : Su} {rs : List Rw} {op mm : Int} (hs : SuOk s) (hr : ∀ r ∈ rs, RwOk seatDeeds mm r) (hm : mm ≤ 2) : ∀ (k : Nat) (t : Fs), FsOk s t → dds t.dd (s.pews - t.lf) → dds (fillS rs op k t).dd (s.pews - (fillS rs op k t).lf)
  | 0, t, _, h => h
  | k + 1, t, ho, h => by
    rw [fillS]
    cases e : rs.find? (fitS op t) with
    | none => exact h
    | some r =>
      have r1 := hr r (List.mem_of_find?_eq_some e)
      have r2 := List.find?_some e
      have hp := hs.pe
      have hf := ho.f
      show dds (if r.dd = "go" then goS t r else if r.dd = "group" then fillS rs op k (grpS t r) else fillS rs op k (sngS t r)).dd (s.pews - (if r.dd = "go" then goS t r else if r.dd = "group" then fillS rs op k (grpS t r) else fillS rs op k (sngS t r)).lf)
      rcases seat_deed r1 with d | d | d
      · rw [if_neg (by rw [d]; decide +kernel), if_pos d]
        obtain ⟨o1, o2, o3, o4⟩ := grp_ok ho r1 hm r2 d
        refine fill_dd hs hr hm k _ o1 ⟨fun x hx => ?_, ?_⟩
        · have hx : x ∈ t.dd ++ [(("group" : Str), frt t.line)] := hx
          rcases List.mem_append.mp hx with hx | hx
          · exact h.1 x hx
          · cases List.mem_singleton.mp hx
            exact ⟨by show 0 ≤ frt t.line; omega, frt_le hs ho, .inl rfl⟩
        · show sat (t.dd ++ [(("group" : Str), frt t.line)]) = s.pews - (t.lf - frt t.line)
          rw [sat_snoc, h.2]
          show s.pews - t.lf + frt t.line = _
          omega
      · rw [if_neg (by rw [d]; decide +kernel), if_neg (by rw [d]; decide +kernel)]
        obtain ⟨o1, o2, o3, o4⟩ := sng_ok ho r1 hm r2 d
        refine fill_dd hs hr hm k _ o1 ⟨fun x hx => ?_, ?_⟩
        · have hx : x ∈ t.dd ++ [(("single" : Str), (1 : Int))] := hx
          rcases List.mem_append.mp hx with hx | hx
          · exact h.1 x hx
          · cases List.mem_singleton.mp hx
            exact ⟨by show (0 : Int) ≤ 1; decide, by show (1 : Int) ≤ 4; decide, .inr rfl⟩
        · show sat (t.dd ++ [(("single" : Str), (1 : Int))]) = s.pews - (t.lf - 1)
          rw [sat_snoc, h.2]
          show s.pews - t.lf + 1 = _
          omega
      · rw [if_pos d]
        exact h
theorem beat_dd {s : Su} {rs : List Rw} {t : Stg} {c : Cm} {op mm : Int} (hs : SuOk s) (ht : StOk s t) (hc : CmOk s c) (hr : ∀ r ∈ rs, RwOk seatDeeds mm r) (hm : mm ≤ 2) : (∀ x ∈ (beat s rs t c op).dd, 0 ≤ x.2 ∧ x.2 ≤ 4 ∧ (x.1 = "group" ∨ x.1 = "single")) ∧ (0 ≤ sat (beat s rs t c op).dd ∧ sat (beat s rs t c op).dd ≤ 4) ∧ (beat s rs t c op).dd.length ≤ 4 ∧ (0 ≤ (beat s rs t c op).em ∧ (beat s rs t c op).em ≤ 4) := by
  have h := filled_ok (op := op) hs ht hc hr hm
  have hp := hs.pe
  have hf := h.f
  have hd := h.d
  obtain ⟨a, b⟩ := fill_dd (op := op) hs hr hm (s.pews.toNat + 1) (fs0 s t c) (fs0_ok hs ht hc) ⟨(fun x hx => by cases hx), by show (0 : Int) = s.pews - s.pews; omega⟩
  have b : sat (filled s rs t c op).dd = s.pews - (filled s rs t c op).lf := b
  rw [beat_eq]
  refine ⟨a, by show 0 ≤ sat (filled s rs t c op).dd ∧ sat (filled s rs t c op).dd ≤ 4; omega, by show (filled s rs t c op).dd.length ≤ 4; omega, ?_⟩
  show 0 ≤ (if (filled s rs t c op).line ≠ [] ∨ 0 < (filled s rs t c op).sg then (filled s rs t c op).lf else 0) ∧ (if (filled s rs t c op).line ≠ [] ∨ 0 < (filled s rs t c op).sg then (filled s rs t c op).lf else 0) ≤ 4
  split <;> omega
theorem comeL_aw {r0 : Int} : ∀ {gs l : List Int} {a : Int}, (∀ x ∈ gs, 0 ≤ x ∧ x ≤ 4) → a ≤ (comeL r0 gs l a).2 ∧ (comeL r0 gs l a).2 ≤ a + 4 * gs.length
  | [], l, a, _ => by show a ≤ a ∧ a ≤ a + 4 * ((0 : Nat) : Int); omega
  | g :: gs, l, a, h => by
    have hg := h g (List.mem_cons_self ..)
    rw [comeL_cons, List.length_cons]
    by_cases q : (l.length : Int) < r0
    · rw [if_pos q]
      have := comeL_aw (r0 := r0) (gs := gs) (l := l ++ [g]) (a := a) fun x hx => h x (List.mem_cons_of_mem _ hx)
      push_cast
      omega
    · rw [if_neg q]
      have := comeL_aw (r0 := r0) (gs := gs) (l := l) (a := a + g) fun x hx => h x (List.mem_cons_of_mem _ hx)
      push_cast
      omega
theorem beat_aw {s : Su} {rs : List Rw} {t : Stg} {c : Cm} {op : Int} (hs : SuOk s) (ht : StOk s t) (hc : CmOk s c) : 0 ≤ (beat s rs t c op).aw ∧ (beat s rs t c op).aw ≤ 8 := by
  have hp := hs.pe
  have h0 := hs.c0
  have h1 := hs.c1
  have h2 := hc.n
  have h3 := ht.n
  have h4 := hs.r1
  have h5 := hc.l
  have := comeL_aw (r0 := s.r0) (gs := c.1) (l := t.line) (a := 0) fun x hx => by have := hs.sz.mem x (hc.g x hx); omega
  show 0 ≤ (comeL s.r0 c.1 t.line 0).2 + t.sg + c.2 - minZ s.r1 (t.sg + c.2) ∧ (comeL s.r0 c.1 t.line 0).2 + t.sg + c.2 - minZ s.r1 (t.sg + c.2) ≤ 8
  unfold minZ
  split <;> omega
structure HlOk (su : Su) (rs ts : List Rw) : Prop where
  s : SuOk su
  r : ∀ r ∈ rs, RwOk seatDeeds 2 r
  t : ∀ r ∈ ts, RwOk tubDeeds 2 r
  rl : rs.length ≤ 6
  tl : ts.length ≤ 6
theorem hs0_ok {s : Su} (hs : SuOk s) : HsOk s hs0 := ⟨st0_ok hs, ⟨by decide, fun x hx => by cases hx⟩, by decide⟩
theorem htt_ok {s : Su} {rs ts : List Rw} {h : Hs} {c : Cm} (L : HlOk s rs ts) (hh : HsOk s h) (hc : CmOk s c) : TtOk s (htt s rs ts h c) := tbeat_ok L.s L.t (by decide) hh.tb hh.m1 (beat_dd L.s hh.st hc L.r (by decide)).2.1
theorem hnext_ok {s : Su} {rs ts : List Rw} {h : Hs} {c : Cm} (L : HlOk s rs ts) (hh : HsOk s h) (hc : CmOk s c) : HsOk s (hnext s rs ts h c) := ⟨beat_st L.s hh.st hc L.r (by decide), (htt_ok L hh hc).tb, (htt_ok L hh hc).md⟩
theorem haft_ok {s : Su} {rs ts : List Rw} (L : HlOk s rs ts) : ∀ {h : Hs} {cs : List Cm}, HsOk s h → (∀ c ∈ cs, CmOk s c) → HsOk s (haft s rs ts h cs)
  | h, [], hh, _ => hh
  | h, c :: cs, hh, hc => by
    rw [haft]
    exact haft_ok L (hnext_ok L hh (hc c (List.mem_cons_self ..))) fun x hx => hc x (List.mem_cons_of_mem _ hx)
end Zd

set_option maxHeartbeats 4000000
/-! What the judges answer, of any plain datum (plain Lean). -/
namespace Zd
open PySem PySem.Spec PyProof.Rows L2 Pd
inductive Pln : D → Prop
  | non : Pln .non
  | bl (b : Bool) : Pln (.bl b)
  | int (i : Int) : Pln (.int i)
  | str (x : Str) : Pln (.str x)
  | tup {ds : List D} (h : ∀ d ∈ ds, Pln d) : Pln (.tup ds)
  | lst {ds : List D} (h : ∀ d ∈ ds, Pln d) : Pln (.lst ds)
  | dct0 : Pln (.dct [])
theorem Gr.pln {n : Nat} {d : D} (h : Gr n d) : Pln d := by
  induction h with
  | non => exact .non
  | int i => exact .int i
  | str x => exact .str x
  | tup h ih => exact .tup ih
  | lst h ih => exact .lst ih
theorem Pln.cons {d : D} {ds : List D} (h : Pln d) (hs : ∀ x ∈ ds, Pln x) : ∀ x ∈ d :: ds, Pln x := fun x hx => by
  rcases List.mem_cons.mp hx with rfl | hx
  · exact h
  · exact hs x hx
theorem Pln.nil : ∀ x ∈ ([] : List D), Pln x := fun _ h => by cases h
def isIntB (lo hi : Int) : D → Bool
  | .int i => decide (lo ≤ i) && decide (i ≤ hi)
  | _ => false
def leB : D → D → Bool
  | .int i, .int j => decide (i ≤ j)
  | _, _ => false
def rangeB : D → Bool
  | .tup [a, b] => isIntB 0 9 a && isIntB 0 9 b && leB a b
  | _ => false
def strInB (deeds : List Str) : D → Bool
  | .str x => decide (x ∈ deeds)
  | _ => false
def rowB (deeds : List Str) : D → Bool
  | .tup [m, a, b, c, d, e, n] => isIntB 0 2 m && isIntB 0 2 n && strInB deeds e && (rangeB a && (rangeB b && (rangeB c && rangeB d)))
  | _ => false
def ruleB (deeds : List Str) : D → Bool
  | .tup ds => decide (ds.length ≤ 6) && ds.all (rowB deeds)
  | _ => false
def houseB : D → Bool
  | .tup [a, b] => ruleB seatDeeds a && ruleB tubDeeds b
  | _ => false
theorem isIntB_of {lo hi : Int} {d : D} (h : isIntB lo hi d = true) : ∃ i, d = .int i ∧ lo ≤ i ∧ i ≤ hi := by
  cases d with
  | int i => simp [isIntB] at h; exact ⟨i, rfl, h⟩
  | _ => cases h
theorem niD_strs {x : Str} {l : List Str} : niD (.str x) (.tup (l.map D.str)) = some (.bl (!decide (x ∈ l))) := by
  have g : ∀ z ∈ l.map D.str, Gr 0 z := fun z hz => by obtain ⟨y, _, rfl⟩ := List.mem_map.mp hz; exact .str _
  by_cases h : x ∈ l
  · rw [niT_no (n := 0) g (.str x) (List.mem_map_of_mem h), decide_eq_true h]; rfl
  · rw [decide_eq_false h]
    show (if (okE (.str x) && okE (.tup (l.map D.str))) = true then some (D.bl (!(l.map D.str).any fun z => eqB z (.str x))) else none) = _
    rw [(Gr.str (n := 0) x).okE, (Gr.tup (n := 0) g).okE]
    show some (D.bl (!(l.map D.str).any fun z => eqB z (.str x))) = _
    have : ((l.map D.str).any fun z => eqB z (.str x)) = false := by
      cases e : ((l.map D.str).any fun z => eqB z (.str x)) with
      | false => rfl
      | true =>
        obtain ⟨y, hy, hyx⟩ := List.mem_map.mp ((Gr.any g (Gr.str x)).mp e)
        cases hyx
        exact absurd hy h
    rw [this]
theorem lc_ds {g : Tg} {t : Tx} {f : Ex} {is : List Nat} {ds : List D} {h : D → D} {Γ : Gm} {Q : List D → Gm → Prop} (hs : ∀ x ∈ ds, W (g x Γ) fun Γ1 => Wp (t Γ1) fun c Γ2 => Br c (Wp (f Γ2) fun y Γ3 => y = h x ∧ wip is Γ3 = Γ) False) (he : Q (ds.map h) Γ) : Wp (lcL g t f is ds Γ) Q := by
  have := lc_enc (xs := ds) (enc := fun p => p) (h := h) (Γ := Γ) (g := g) (t := t) (f := f) (is := is) (Q := Q) hs he
  rwa [List.map_id'] at this
theorem allD_bl {f : D → Bool} {ds : List D} : allD [.lst (ds.map fun p => .bl (f p))] = some (.bl (ds.all f)) := by
  have := allD_map (ds.map f)
  rw [List.map_map, List.all_map] at this
  exact this
end Zd

set_option maxHeartbeats 4000000
/-! The reckoner: l[a], m[b] = .. -/
namespace Zd
open PySem PySem.Spec PyProof.Rows L2 Pd
section
variable {Γ : Gm} {i j : Nat} {f : Ex} {a c : Ox} {d : D} {QF : Fl → Gm → Prop} {QG : Gm → Prop}
theorem w_setIxG : W (setIxG i a d Γ) QG = W (muL Γ i) fun _ => Wp (a Γ) fun k Γ => W (k.get Γ) fun k => W (toI k) fun k => W (muL Γ i) fun ds => W (ixN ds.length k) fun j => QG (putS Γ i (.lst (ds.set j d))) := by
  unfold setIxG
  rw [W_bind]
  congr; funext x
  rw [W_bind, Wp_W]
  congr; funext q
  rw [W_bind]
  congr; funext y
  rw [W_bind]
  congr; funext k
  rw [W_bind]
  congr; funext ds
  rw [W_map]
instance xw_setIxG : W1 (setIxG i a d Γ) QG (W (muL Γ i) fun _ => Wp (a Γ) fun k Γ => W (k.get Γ) fun k => W (toI k) fun k => W (muL Γ i) fun ds => W (ixN ds.length k) fun j => QG (putS Γ i (.lst (ds.set j d)))) := ⟨fun h => Eq.mpr w_setIxG h⟩
theorem w_swap : Wp (sSwap i f a j c Γ) QF = Wp (f Γ) fun x Γ => W (pairD x) fun ab => W (setIxG i a ab.1 Γ) fun Γ => W (setIxG j c ab.2 Γ) fun Γ => QF .nx Γ := by
  rw [Wp_W, Wp_W]
  unfold sSwap
  rw [W_bind]
  congr; funext p
  rw [W_bind]
  congr; funext x
  rw [W_bind]
  congr; funext q
  rw [W_map]
instance xw_swap : Wx (sSwap i f a j c Γ) QF (Wp (f Γ) fun x Γ => W (pairD x) fun ab => W (setIxG i a ab.1 Γ) fun Γ => W (setIxG j c ab.2 Γ) fun Γ => QF .nx Γ) := ⟨fun h => Eq.mpr w_swap h⟩
end
end Zd

set_option maxHeartbeats 4000000
/-! What the judges of a setup answer, of any plain datum; data bent (plain Lean). -/
namespace Zd
open PySem PySem.Spec PyProof.Rows L2 Pd
def lvB : List (Int × Int) → List D → Bool
  | (l, h) :: rs, d :: ds => isIntB l h d && lvB rs ds
  | [], [] => true
  | _, _ => false
def arB (rs : List (Int × Int)) : D → Bool
  | .tup ds => lvB rs ds
  | _ => false
def ltB : D → D → Bool
  | .int i, .int j => decide (i < j)
  | _, _ => false
def chB (m : Int) : D → Bool
  | .tup [a] => isIntB 1 m a
  | .tup [a, b] => isIntB 1 m a && isIntB 1 m b && ltB a b
  | _ => false
def chA : D → D → Bool
  | .int i, d => chB i d
  | _, _ => false
def setupB : D → Bool
  | .tup [a, b, c, d, e, f, g] => isIntB 1 4 a && (chA a b && (arB [(1, 2), (0, 2)] c && (arB [(0, 1), (0, 2)] d && (chB 4 e && (isIntB 1 3 f && arB [(0, 5), (0, 5), (0, 5), (0, 5)] g)))))
  | _ => false
theorem lvB_len : ∀ {rs : List (Int × Int)} {ds : List D}, lvB rs ds = true → ds.length = rs.length
  | [], [], _ => rfl
  | (l, h) :: rs, d :: ds, e => by
    rw [lvB, Bool.and_eq_true] at e
    rw [List.length_cons, List.length_cons, lvB_len e.2]
  | [], _ :: _, e => by cases e
  | _ :: _, [], e => by cases e
theorem lvB_zip : ∀ {rs : List (Int × Int)} {ds : List D}, ds.length = rs.length → lvB rs ds = (ds.zip rs).all fun p => isIntB p.2.1 p.2.2 p.1
  | [], [], _ => rfl
  | (l, h) :: rs, d :: ds, e => by
    rw [lvB, List.zip_cons_cons, List.all_cons, lvB_zip (by simpa using e)]
  | [], _ :: _, e => by cases e
  | _ :: _, [], e => by cases e
theorem lvB_ne {rs : List (Int × Int)} {ds : List D} (h : ds.length ≠ rs.length) : lvB rs ds = false := by
  cases e : lvB rs ds with
  | false => rfl
  | true => exact absurd (lvB_len e) h
/-- by places -/
theorem lvB_at {rs : List (Int × Int)} {ds : List D} (hl : ds.length = rs.length) : lvB rs ds = ((List.range rs.length).filter fun k => !(isIntB (rs.getD k (0, 0)).1 (rs.getD k (0, 0)).2 (ds.getD k .non))).isEmpty := by
  have key : lvB rs ds = true ↔ ∀ k, k < rs.length → isIntB (rs.getD k (0, 0)).1 (rs.getD k (0, 0)).2 (ds.getD k .non) = true := by
    induction rs generalizing ds with
    | nil =>
      cases ds with
      | nil => exact ⟨fun _ k hk => absurd hk (Nat.not_lt_zero k), fun _ => rfl⟩
      | cons d ds => cases hl
    | cons r rs ih =>
      cases ds with
      | nil => cases hl
      | cons d ds =>
        obtain ⟨l, h⟩ := r
        rw [lvB, Bool.and_eq_true, ih (by simpa using hl)]
        refine ⟨fun ⟨h1, h2⟩ k hk => ?_, fun h => ⟨h 0 (Nat.succ_pos _), fun k hk => h (k + 1) (Nat.succ_lt_succ hk)⟩⟩
        cases k with
        | zero => exact h1
        | succ k => exact h2 k (Nat.lt_of_succ_lt_succ hk)
  cases e : lvB rs ds with
  | true =>
    symm
    rw [List.isEmpty_iff, List.filter_eq_nil_iff]
    intro k hk
    rw [key.mp e k (List.mem_range.mp hk)]
    decide
  | false =>
    cases z : ((List.range rs.length).filter fun k => !(isIntB (rs.getD k (0, 0)).1 (rs.getD k (0, 0)).2 (ds.getD k .non))).isEmpty with
    | false => rfl
    | true =>
      rw [List.isEmpty_iff, List.filter_eq_nil_iff] at z
      rw [key.mpr fun k hk => by
        have := z k (List.mem_range.mpr hk)
        simpa using this] at e
      cases e
abbrev loD (rs : List (Int × Int)) : D := .tup (rs.map fun p => D.int p.1)
abbrev hiD (rs : List (Int × Int)) : D := .tup (rs.map fun p => D.int p.2)
theorem zipL3_rs : ∀ {rs : List (Int × Int)} {ds : List D}, zipL3 ds (rs.map fun p => D.int p.1) (rs.map fun p => D.int p.2) = (ds.zip rs).map fun p => D.tup [p.1, .int p.2.1, .int p.2.2]
  | [], [] => rfl
  | [], _ :: _ => rfl
  | _ :: _, [] => rfl
  | r :: rs, d :: ds => by
    rw [List.map_cons, List.map_cons, zipL3, List.zip_cons_cons, List.map_cons, zipL3_rs]
theorem zip3_rs {rs : List (Int × Int)} {ds : List D} : zip3 [.tup ds, loD rs, hiD rs] = some ((ds.zip rs).map fun p => D.tup [p.1, .int p.2.1, .int p.2.2]) := by
  show some (zipL3 ds _ _) = _
  rw [zipL3_rs]
theorem niT_yes {n : Nat} {ds : List D} {e : D} (h : ∀ x ∈ ds, Gr n x) (g : Gr n e) (he : e ∉ ds) (hn : n < 60 := by omega) : niD e (.tup ds) = some (.bl true) := by
  show (if (okE e && okE (.tup ds)) = true then some (D.bl (!ds.any fun z => eqB z e)) else none) = _
  rw [g.okE (by omega), (Gr.tup h).okE (by omega)]
  show some (D.bl (!ds.any fun z => eqB z e)) = _
  have : (ds.any fun z => eqB z e) = false := by
    cases e1 : (ds.any fun z => eqB z e) with
    | false => rfl
    | true => exact absurd ((Gr.any h g).mp e1) he
  rw [this]; rfl
theorem inD_strs {x : Str} {l : List Str} : inD (.str x) (.lst (l.map D.str)) = some (.bl (decide (x ∈ l))) := by
  have g : ∀ z ∈ l.map D.str, Gr 0 z := fun z hz => by obtain ⟨y, _, rfl⟩ := List.mem_map.mp hz; exact .str _
  show (if (okE (.str x) && okE (.lst (l.map D.str))) = true then some (D.bl ((l.map D.str).any fun z => eqB z (.str x))) else none) = _
  rw [(Gr.str (n := 0) x).okE, (Gr.lst (n := 0) g).okE]
  show some (D.bl ((l.map D.str).any fun z => eqB z (.str x))) = _
  by_cases h : x ∈ l
  · rw [(Gr.any g (Gr.str x)).mpr (List.mem_map_of_mem h), decide_eq_true h]
  · rw [decide_eq_false h]
    cases e : ((l.map D.str).any fun z => eqB z (.str x)) with
    | false => rfl
    | true =>
      obtain ⟨y, hy, hyx⟩ := List.mem_map.mp ((Gr.any g (Gr.str x)).mp e)
      cases hyx
      exact absurd hy h
end Zd

set_option maxHeartbeats 4000000
/-! Data bent: texts of bounded length (plain Lean). -/
namespace Zd
open PySem PySem.Spec PyProof.Rows L2 Pd
def lnB : Nat → Nat
  | 0 => 48
  | n + 1 => (lnB n + 2) * 14 + 8
theorem lnB_le : ∀ {n m : Nat}, n ≤ m → lnB n ≤ lnB m
  | 0, 0, _ => Nat.le_refl _
  | 0, m + 1, _ => by
    have := lnB_le (Nat.zero_le m)
    show lnB 0 ≤ (lnB m + 2) * 14 + 8
    omega
  | n + 1, m + 1, h => by
    have := lnB_le (Nat.le_of_succ_le_succ h)
    show (lnB n + 2) * 14 + 8 ≤ (lnB m + 2) * 14 + 8
    omega
/-- what repr asks, but for the kind -/
structure Rp (n m : Nat) (d : D) : Prop where
  dp : (toPy d).depth ≤ n
  sh : (toPy d).showable = true
  ln : (toPy d).shown.length ≤ m
theorem Rp.mono {n m n' m' : Nat} {d : D} (h : Rp n m d) (h1 : n ≤ n') (h2 : m ≤ m') : Rp n' m' d := ⟨Nat.le_trans h.dp h1, h.sh, Nat.le_trans h.ln h2⟩
theorem Okd.rp {n m : Nat} {d : D} (h : Okd n m d) : Rp n m d := ⟨h.dp, h.sh, h.ln⟩
theorem rp_all {n m : Nat} : ∀ {ds : List D}, (∀ d ∈ ds, Rp n m d) → PyData.depthAll (toPys ds) ≤ n ∧ PyData.showableAll (toPys ds) = true ∧ (PyData.shownAll (toPys ds)).length = ds.length ∧ ((PyData.shownAll (toPys ds)).map (·.length)).sum ≤ m * ds.length
  | [], _ => by rw [toPys]; exact ⟨Nat.zero_le _, rfl, rfl, Nat.le_refl _⟩
  | d :: ds, h => by
    obtain ⟨a2, a3, a4, a5⟩ := rp_all fun e he => h e (List.mem_cons_of_mem _ he)
    have hd := h d (List.mem_cons_self ..)
    rw [toPys]
    refine ⟨by rw [PyData.depthAll]; exact Nat.max_le.mpr ⟨hd.dp, a2⟩, by rw [PyData.showableAll, hd.sh, a3]; rfl, by rw [PyData.shownAll, List.length_cons, a4]; rfl, ?_⟩
    rw [PyData.shownAll, List.map_cons, List.sum_cons, List.length_cons, Nat.mul_succ]
    have := hd.ln
    omega
theorem rp_tup {n m k : Nat} {ds : List D} (h : ∀ d ∈ ds, Rp n m d) (hl : ds.length ≤ k) : Rp (n + 1) ((m + 2) * k + 8) (.tup ds) := by
  obtain ⟨a2, a3, a4, a5⟩ := rp_all h
  refine ⟨by rw [toPy, PyData.depth]; omega, by rw [toPy, PyData.showable]; exact a3, ?_⟩
  rw [toPy, PyData.shown]
  have h := tupleText_len_le (PyData.shownAll (toPys ds))
  rw [a4] at h
  have h2 : m * ds.length ≤ m * k := Nat.mul_le_mul_left m hl
  rw [Nat.add_mul]
  omega
theorem rp_lst {n m k : Nat} {ds : List D} (h : ∀ d ∈ ds, Rp n m d) (hl : ds.length ≤ k) : Rp (n + 1) ((m + 2) * k + 8) (.lst ds) := by
  obtain ⟨a2, a3, a4, a5⟩ := rp_all h
  refine ⟨by rw [toPy, PyData.depth]; omega, by rw [toPy, PyData.showable]; exact a3, ?_⟩
  rw [toPy, PyData.shown]
  have h := listText_len_le (PyData.shownAll (toPys ds))
  rw [a4] at h
  have h2 : m * ds.length ≤ m * k := Nat.mul_le_mul_left m hl
  rw [Nat.add_mul]
  omega
/-- a datum whose repr is a text: no dict at all, or no list -/
structure Bnt (n : Nat) (d : D) : Prop where
  rp : Rp n (lnB n) d
  pl : Pln d
  pk : (toPy d).plain = true ∨ lfD d = true
theorem Bnt.mono {n m : Nat} {d : D} (h : Bnt n d) (hn : n ≤ m) : Bnt m d := ⟨h.rp.mono hn (lnB_le hn), h.pl, h.pk⟩
/-- a part of a setup or of a rule -/
inductive Tl : Nat → D → Prop
  | int {n : Nat} {i : Int} (h1 : -1000000 ≤ i) (h2 : i ≤ 1000000) : Tl n (.int i)
  | str {n : Nat} {x : Str} (h : (PyData.shown (.str x)).length ≤ 48) : Tl n (.str x)
  | tup {n : Nat} {ds : List D} (h : ∀ d ∈ ds, Tl n d) (hl : ds.length ≤ 13) : Tl (n + 1) (.tup ds)
theorem lfDs_all : ∀ {ds : List D}, (∀ d ∈ ds, lfD d = true) → lfDs ds = true
  | [], _ => by rw [lfDs]
  | d :: ds, h => by rw [lfDs, h d (List.mem_cons_self ..), lfDs_all fun e he => h e (List.mem_cons_of_mem _ he)]; rfl
theorem plain_all : ∀ {ds : List D}, (∀ d ∈ ds, (toPy d).plain = true) → PyData.plainAll (toPys ds) = true
  | [], _ => by rw [toPys]; rfl
  | d :: ds, h => by rw [toPys, PyData.plainAll, h d (List.mem_cons_self ..), plain_all fun e he => h e (List.mem_cons_of_mem _ he)]; rfl
theorem Tl.all {n : Nat} {d : D} (h : Tl n d) : Rp n (lnB n) d ∧ Pln d ∧ (toPy d).plain = true ∧ lfD d = true := by
  induction h with
  | int h1 h2 =>
    rename_i n i
    have := okd_int (i := i) (by omega) (by omega)
    exact ⟨this.rp.mono (Nat.zero_le _) (Nat.le_trans (by decide) (lnB_le (Nat.zero_le n))), .int _, this.pl, by rw [lfD]⟩
  | str h =>
    rename_i n x
    have := okd_str h
    exact ⟨this.rp.mono (Nat.zero_le _) (lnB_le (Nat.zero_le n)), .str _, this.pl, by rw [lfD]⟩
  | tup h hl ih =>
    rename_i n ds
    refine ⟨?_, .tup fun d hd => (ih d hd).2.1, by rw [toPy, PyData.plain]; exact plain_all fun d hd => (ih d hd).2.2.1, by rw [lfD]; exact lfDs_all fun d hd => (ih d hd).2.2.2⟩
    exact rp_tup (k := 14) (fun d hd => (ih d hd).1) (by omega)
theorem Tl.bt {n : Nat} {d : D} (h : Tl n d) : Bnt n d := ⟨h.all.1, h.all.2.1, .inl h.all.2.2.1⟩
theorem bt_tup {n : Nat} {ds : List D} (h : ∀ d ∈ ds, Tl n d) (hl : ds.length ≤ 14) : Bnt (n + 1) (.tup ds) :=
  ⟨rp_tup (k := 14) (fun d hd => (h d hd).all.1) hl, .tup fun d hd => (h d hd).all.2.1, .inl (by rw [toPy, PyData.plain]; exact plain_all fun d hd => (h d hd).all.2.2.1)⟩
theorem bt_lst {n : Nat} {ds : List D} (h : ∀ d ∈ ds, Tl n d) (hl : ds.length ≤ 14) : Bnt (n + 1) (.lst ds) :=
  ⟨rp_lst (k := 14) (fun d hd => (h d hd).all.1) hl, .lst fun d hd => (h d hd).all.2.1, .inl (by rw [toPy, PyData.plain]; exact plain_all fun d hd => (h d hd).all.2.2.1)⟩
theorem bt_mid {n : Nat} {l1 l2 : List D} {x : D} (h1 : ∀ d ∈ l1, Tl n d) (h2 : ∀ d ∈ l2, Tl n d) (hx : Bnt (n + 1) x) (hl : l1.length + l2.length ≤ 13) : Bnt (n + 2) (.tup (l1 ++ [x] ++ l2)) := by
  have hm : ∀ d ∈ l1 ++ [x] ++ l2, Tl n d ∨ d = x := fun d hd => by
    rw [List.mem_append, List.mem_append, List.mem_singleton] at hd
    rcases hd with (hd | hd) | hd
    · exact .inl (h1 d hd)
    · exact .inr hd
    · exact .inl (h2 d hd)
  refine ⟨rp_tup (k := 14) (fun d hd => ?_) (by rw [List.length_append, List.length_append, List.length_singleton]; omega), .tup fun d hd => ?_, ?_⟩
  · rcases hm d hd with h | rfl
    · exact h.all.1.mono (Nat.le_succ n) (lnB_le (Nat.le_succ n))
    · exact hx.rp
  · rcases hm d hd with h | rfl
    · exact h.all.2.1
    · exact hx.pl
  · rcases hx.pk with hp | hp
    · refine .inl ?_
      rw [toPy, PyData.plain]
      exact plain_all fun d hd => by
        rcases hm d hd with h | rfl
        · exact h.all.2.2.1
        · exact hp
    · refine .inr ?_
      rw [lfD]
      exact lfDs_all fun d hd => by
        rcases hm d hd with h | rfl
        · exact h.all.2.2.2
        · exact hp
theorem Bnt.repr {n : Nat} {d : D} (h : Bnt n d) (hn : n ≤ 4) : ∃ S, reprU [d] = some (.str S) := by
  have hl : (toPy d).shown.length ≤ 10000000 := Nat.le_trans h.rp.ln (Nat.le_trans (lnB_le hn) (by decide))
  have hd : (toPy d).depth ≤ 60 := Nat.le_trans h.rp.dp (by omega)
  refine ⟨(toPy d).shown, ?_⟩
  show (if _ then _ else _) = _
  split
  · rfl
  · rename_i hc
    show (if _ then _ else _) = _
    rw [if_pos]
    rw [h.rp.sh, decide_eq_true hl, decide_eq_true hd, Bool.and_true, Bool.and_true, Bool.and_true]
    rcases h.pk with hp | hp
    · exact hp
    · rw [hp, h.rp.sh, decide_eq_true hl, decide_eq_true hd] at hc
      have hc : dispD d ≠ true := fun z => hc (by rw [z]; rfl)
      cases d with
      | non => rw [toPy]; rfl
      | bl _ => rw [toPy]; rfl
      | int _ => rw [toPy]; rfl
      | str _ => rw [toPy]; rfl
      | tup _ => exact absurd rfl hc
      | dct _ => exact absurd rfl hc
      | _ => rw [lfD] at hp; cases hp; all_goals (intros; contradiction)
theorem bt_int {n : Nat} {i : Int} (h1 : -(10 ^ 40) < i) (h2 : i < 10 ^ 40) : Bnt n (.int i) := by
  have h : i.natAbs < 10 ^ 40 := by omega
  have hl : i.natAbs.log2 < 1920 := by
    by_cases h0 : i.natAbs = 0
    · rw [h0]; decide
    · rw [Nat.log2_lt h0]
      exact Nat.lt_of_lt_of_le h (by decide +kernel)
  refine ⟨⟨by rw [toPy, PyData.depth]; exact Nat.zero_le _, by rw [toPy, PyData.showable]; exact decide_eq_true hl, ?_⟩, .int _, .inl (by rw [toPy, PyData.plain])⟩
  refine Nat.le_trans ?_ (lnB_le (Nat.zero_le n))
  rw [toPy]
  show (Str.ofString (toString i)).length ≤ 48
  rw [PySem.ofString_length]
  exact Nat.le_trans (int_text_length_le10 (k := 40) (by decide) h) (by decide)
theorem bt_bl {n : Nat} (b : Bool) : Bnt n (.bl b) := ⟨(okd_bl b).rp.mono (Nat.zero_le _) (Nat.le_trans (by decide) (lnB_le (Nat.zero_le n))), .bl _, .inl (okd_bl b).pl⟩
theorem bt_str {n : Nat} {x : Str} (h : (PyData.shown (.str x)).length ≤ 48) : Bnt n (.str x) := (Tl.str h).bt
theorem bt_non {n : Nat} : Bnt n .non := ⟨okd_non.rp.mono (Nat.zero_le _) (Nat.le_trans (by decide) (lnB_le (Nat.zero_le n))), .non, .inl okd_non.pl⟩
theorem bt_dct0 {n : Nat} : Bnt (n + 1) (.dct []) := by
  refine ⟨⟨?_, by decide +kernel, Nat.le_trans ?_ (lnB_le (Nat.zero_le _))⟩, .dct0, .inr (by rw [lfD])⟩
  · exact Nat.le_trans (m := 1) (by decide +kernel) (Nat.succ_le_succ (Nat.zero_le n))
  · decide +kernel
/-- the same for lists of them -/
inductive Al (P : D → Prop) : List D → Prop
  | nil : Al P []
  | cons {d : D} {ds : List D} (h : P d) (hs : Al P ds) : Al P (d :: ds)
theorem Al.all {P : D → Prop} {ds : List D} (h : Al P ds) : ∀ d ∈ ds, P d := by
  induction h with
  | nil => intro d hd; cases hd
  | cons h hs ih =>
    intro d hd
    rcases List.mem_cons.mp hd with rfl | hd
    · exact h
    · exact ih d hd
theorem bt_blp {b : Bool} {i : Int} (h1 : -1000 < i) (h2 : i < 1000) : Bnt 1 (.tup [.bl b, .int i]) := by
  have o1 := (okd_bl b)
  have o2 := okd_int (i := i) (by omega) (by omega)
  refine ⟨(rp_tup (k := 14) (n := 0) (m := 48) (Al.cons (P := Rp 0 48) (o1.rp.mono (Nat.le_refl _) (by decide)) (.cons (o2.rp.mono (Nat.le_refl _) (by decide)) .nil)).all (by simp)), .tup (Al.cons (P := Pln) (.bl _) (.cons (.int _) .nil)).all, .inl ?_⟩
  rw [toPy, PyData.plain]
  exact plain_all (Al.cons (P := fun d => (toPy d).plain = true) o1.pl (.cons o2.pl .nil)).all
theorem cutL_len {α : Type} (xs : List α) (lo hi : Option Int) : (cutL xs lo hi).length ≤ xs.length := by
  unfold cutL
  rw [List.length_take, List.length_drop]
  omega
theorem cutL_mem {α : Type} {xs : List α} {lo hi : Option Int} {x : α} (h : x ∈ cutL xs lo hi) : x ∈ xs := List.mem_of_mem_drop (List.mem_of_mem_take h)
theorem cutL_to {α : Type} (xs : List α) (n : Nat) (h : n ≤ xs.length) : cutL xs none (some (n : Int)) = xs.take n := by
  unfold cutL
  rw [HT.sIx_nat]
  show (xs.drop 0).take (min n xs.length - 0) = _
  rw [Nat.min_eq_left h, List.drop_zero, Nat.sub_zero]
theorem cutL_from {α : Type} (xs : List α) (n : Nat) (h : n ≤ xs.length) : cutL xs (some (n : Int)) none = xs.drop n := by
  unfold cutL
  rw [HT.sIx_nat]
  show (xs.drop (min n xs.length)).take (xs.length - min n xs.length) = _
  rw [Nat.min_eq_left h, List.take_of_length_le (by rw [List.length_drop]; omega)]
theorem cutL_sum {xs : List D} {p : Int} (h1 : 0 ≤ p) (h2 : p < xs.length) : (cutL xs none (some p)).length + (cutL xs (some (p + 1)) none).length + 1 = xs.length := by
  have a := cutL_to xs p.toNat (by omega)
  have b := cutL_from xs (p.toNat + 1) (by omega)
  rw [show ((p.toNat : Nat) : Int) = p by omega] at a
  rw [show ((p.toNat + 1 : Nat) : Int) = p + 1 by omega] at b
  rw [a, b, List.length_take, List.length_drop]
  omega
theorem cutL_one (xs : List D) : (cutL xs none (some 1)).length ≤ 1 := by
  cases xs with
  | nil => exact Nat.le_trans (cutL_len _ _ _) (by decide)
  | cons x xs =>
    have a := cutL_to (x :: xs) 1 (by simp)
    rw [show ((1 : Nat) : Int) = 1 from rfl] at a
    rw [a, List.length_take]
    omega
theorem ixN_of {n : Nat} {v : Int} (h1 : 0 ≤ v) (h2 : v < n) : ixN n v = some v.toNat := by
  unfold ixN
  rw [if_pos h1, if_pos h2]
end Zd

set_option maxHeartbeats 4000000
namespace K19
open PySem PySem.Spec PyProof.Rows L2 Pd Zd
def topS (i : Nat) : Stmt := PySem.Challenge.pw_parlourday_k19_setups_and_seat_rules_jud.main.body.getD i (.Pass ⟨0, 0, 0, 0⟩)
/-- what the top leaves of the names that are read -/
structure Txt (K : PySem.W.Frag) (w : World) (mg : Str → Option Value) : Prop where
  m_abs : mg "abs" = none
  m_all : mg "all" = none
  m_bool : mg "bool" = none
  m_int : mg "int" = none
  m_isinstance : mg "isinstance" = none
  m_len : mg "len" = none
  m_list : mg "list" = none
  m_max : mg "max" = none
  m_min : mg "min" = none
  m_range : mg "range" = none
  m_repr : mg "repr" = none
  m_set : mg "set" = none
  m_sorted : mg "sorted" = none
  m_str : mg "str" = none
  m_tuple : mg "tuple" = none
  m_zip : mg "zip" = none
  g_ANY : ∃ u v, mg "ANY" = some u ∧ RelV v u ∧ ∀ H, Rep ⟨K, w⟩ H v (D.tup [(D.int (0)), (D.int (9))])
  g_MOST_LIFE : ∃ u v, mg "MOST_LIFE" = some u ∧ RelV v u ∧ ∀ H, Rep ⟨K, w⟩ H v (D.int (3))
  g_MOST_MOOD : ∃ u v, mg "MOST_MOOD" = some u ∧ RelV v u ∧ ∀ H, Rep ⟨K, w⟩ H v (D.int (2))
  g_MOST_PORTIONS : ∃ u v, mg "MOST_PORTIONS" = some u ∧ RelV v u ∧ ∀ H, Rep ⟨K, w⟩ H v (D.int (4))
  g_MOST_PRICE : ∃ u v, mg "MOST_PRICE" = some u ∧ RelV v u ∧ ∀ H, Rep ⟨K, w⟩ H v (D.int (5))
  g_MOST_RULE : ∃ u v, mg "MOST_RULE" = some u ∧ RelV v u ∧ ∀ H, Rep ⟨K, w⟩ H v (D.int (6))
  g_MOST_SEATS : ∃ u v, mg "MOST_SEATS" = some u ∧ RelV v u ∧ ∀ H, Rep ⟨K, w⟩ H v (D.int (4))
  g_SEAT_DEEDS : ∃ u v, mg "SEAT_DEEDS" = some u ∧ RelV v u ∧ ∀ H, Rep ⟨K, w⟩ H v (D.tup [(D.str "group"), (D.str "single"), (D.str "go")])
abbrev s_comers_of : Stmt := topS 22
abbrev N_comers_of : List Str := ["setup", "groups", "found", "some", "size", "singles"]
theorem sc_comers_of : FnScope N_comers_of ["setup"] (defScope s_comers_of) := ⟨rfl, rfl, rfl, by decide +kernel, rfl, by decide +kernel, by decide +kernel⟩
@[irreducible] noncomputable def u_comers_of : Sx := (sSeq (sSet 1 (eLst (vsC (eTup vsN) vsN)))
    (sSeq (sIf (xB (eOp2 gtD (oE (eOp2 ixD (oE (eOp2 ixD (oV 0) (oE (eC (D.int (3)))))) (oE (eC (D.int (0)))))) (oE (eC (D.int (0)))))) (sSet 1 (eOp2 addD (oV 1) (oE (eLc (iSeq (eOp2 ixD (oV 0) (oE (eC (D.int (1)))))) (gN 4) xYes (eTup (vsC (eV 4) vsN)) [4])))) sNil)
    (sSeq (sOwn 2 (eLst vsN))
    (sSeq (sFor (iSeq (eV 1)) (gN 3) (sExpr (eExt 2 (oE (eLc (iRg1 (osC (oE (eOp2 addD (oE (eOp2 ixD (oE (eOp2 ixD (oV 0) (oE (eC (D.int (3)))))) (oE (eC (D.int (1)))))) (oE (eC (D.int (1)))))) osN)) (gN 5) xYes (eTup (vsC (eV 3) (vsC (eV 5) vsN))) [5])))))
    (sRetO 2)))))
@[irreducible] noncomputable def F_comers_of : List D → Option D := runV 1 6 .fresh u_comers_of
abbrev s_is_integer : Stmt := topS 4
abbrev N_is_integer : List Str := ["thing", "low", "high"]
theorem sc_is_integer : FnScope N_is_integer ["thing", "low", "high"] (defScope s_is_integer) := ⟨rfl, rfl, rfl, by decide +kernel, rfl, by decide +kernel, by decide +kernel⟩
@[irreducible] noncomputable def u_is_integer : Sx := (sSeq (sIf (xOr (xNot (xTru (oE (eIsi .int (oV 0))))) (xTru (oE (eIsi .bool (oV 0))))) (sRet (eC (D.bl false))) sNil)
    (sRet (eAnd (eOr (eOp2 isND (oV 1) (oE (eC D.non))) (eOp2 leD (oV 1) (oV 0))) (eOr (eOp2 isND (oV 2) (oE (eC D.non))) (eOp2 leD (oV 0) (oV 2))))))
@[irreducible] noncomputable def F_is_integer : List D → Option D := runV 3 3 .rest u_is_integer
abbrev s_is_row_of : Stmt := topS 15
abbrev N_is_row_of : List Str := ["thing", "lows", "highs", "one", "low", "high"]
theorem sc_is_row_of : FnScope N_is_row_of ["thing", "lows", "highs"] (defScope s_is_row_of) := ⟨rfl, rfl, rfl, by decide +kernel, rfl, by decide +kernel, by decide +kernel⟩
@[irreducible] noncomputable def u_is_row_of : Sx := (sSeq (sIf (xOr (xNot (xTru (oE (eIsi .tuple (oV 0))))) (xB (eOp2 neD (oE (eFn lenD (osC (oV 0) osN))) (oE (eFn lenD (osC (oV 1) osN)))))) (sRet (eC (D.bl false))) sNil)
    (sRet (eFn allD (osC (oE (eLc (iZip3 (vsC (eV 0) (vsC (eV 1) (vsC (eV 2) vsN)))) (gU (gsC (gN 3) (gsC (gN 4) (gsC (gN 5) gsN)))) xYes (eCall F_is_integer (vsC (eV 3) (vsC (eV 4) (vsC (eV 5) vsN)))) [3, 4, 5])) osN))))
@[irreducible] noncomputable def F_is_row_of : List D → Option D := runV 3 6 .rest u_is_row_of
abbrev s_is_choice : Stmt := topS 16
abbrev N_is_choice : List Str := ["thing", "most", "one"]
theorem sc_is_choice : FnScope N_is_choice ["thing", "most"] (defScope s_is_choice) := ⟨rfl, rfl, rfl, by decide +kernel, rfl, by decide +kernel, by decide +kernel⟩
@[irreducible] noncomputable def u_is_choice : Sx := (sSeq (sIf (xOr (xNot (xTru (oE (eIsi .tuple (oV 0))))) (xB (eOp2 niD (oE (eFn lenD (osC (oV 0) osN))) (oE (eTup (vsC (eC (D.int (1))) (vsC (eC (D.int (2))) vsN))))))) (sRet (eC (D.bl false))) sNil)
    (sSeq (sIf (xNot (xTru (oE (eFn allD (osC (oE (eLc (iSeq (eV 0)) (gN 2) xYes (eCall F_is_integer (vsC (eV 2) (vsC (eC (D.int (1))) (vsC (eV 1) vsN)))) [2])) osN))))) (sRet (eC (D.bl false))) sNil)
    (sRet (eOr (eOp2 eqD (oE (eFn lenD (osC (oV 0) osN))) (oE (eC (D.int (1))))) (eOp2 ltD (oE (eOp2 ixD (oV 0) (oE (eC (D.int (0)))))) (oE (eOp2 ixD (oV 0) (oE (eC (D.int (1)))))))))))
@[irreducible] noncomputable def F_is_choice : List D → Option D := runV 2 3 .rest u_is_choice
abbrev s_is_setup : Stmt := topS 17
abbrev N_is_setup : List Str := ["thing", "seats", "sizes", "rooms", "comers", "kinds", "life", "prices"]
theorem sc_is_setup : FnScope N_is_setup ["thing"] (defScope s_is_setup) := ⟨rfl, rfl, rfl, by decide +kernel, rfl, by decide +kernel, by decide +kernel⟩
@[irreducible] noncomputable def u_is_setup : Sx := (sSeq (sIf (xOr (xNot (xTru (oE (eIsi .tuple (oV 0))))) (xB (eOp2 neD (oE (eFn lenD (osC (oV 0) osN))) (oE (eC (D.int (7))))))) (sRet (eC (D.bl false))) sNil)
    (sSeq (sAsg (eV 0) (gU (gsC (gN 1) (gsC (gN 2) (gsC (gN 3) (gsC (gN 4) (gsC (gN 5) (gsC (gN 6) (gsC (gN 7) gsN)))))))))
    (sSeq (sIf (xOr (xNot (xTru (oE (eCall F_is_integer (vsC (eV 1) (vsC (eC (D.int (1))) (vsC (eC (D.int (4))) vsN))))))) (xNot (xTru (oE (eCall F_is_choice (vsC (eV 2) (vsC (eV 1) vsN))))))) (sRet (eC (D.bl false))) sNil)
    (sSeq (sIf (xOr (xNot (xTru (oE (eCall F_is_row_of (vsC (eV 3) (vsC (eTup (vsC (eC (D.int (1))) (vsC (eC (D.int (0))) vsN))) (vsC (eTup (vsC (eC (D.int (2))) (vsC (eC (D.int (2))) vsN))) vsN))))))) (xNot (xTru (oE (eCall F_is_row_of (vsC (eV 4) (vsC (eTup (vsC (eC (D.int (0))) (vsC (eC (D.int (0))) vsN))) (vsC (eTup (vsC (eC (D.int (1))) (vsC (eC (D.int (2))) vsN))) vsN)))))))) (sRet (eC (D.bl false))) sNil)
    (sSeq (sIf (xOr (xNot (xTru (oE (eCall F_is_choice (vsC (eV 5) (vsC (eC (D.int (4))) vsN)))))) (xNot (xTru (oE (eCall F_is_integer (vsC (eV 6) (vsC (eC (D.int (1))) (vsC (eC (D.int (3))) vsN)))))))) (sRet (eC (D.bl false))) sNil)
    (sRet (eCall F_is_row_of (vsC (eV 7) (vsC (eTup (vsC (eC (D.int (0))) (vsC (eC (D.int (0))) (vsC (eC (D.int (0))) (vsC (eC (D.int (0))) vsN))))) (vsC (eOp2 mulD (oE (eTup (vsC (eC (D.int (5))) vsN))) (oE (eC (D.int (4))))) vsN))))))))))
@[irreducible] noncomputable def F_is_setup : List D → Option D := runV 1 8 .rest u_is_setup
noncomputable def F_is_setup_0_thing : List D → Option D := fun ds => match ds with | [d0] => F_is_setup [d0] | _ => none
theorem e_is_setup_0_thing {d0 : D} : F_is_setup_0_thing [d0] = F_is_setup [d0] := rfl
abbrev s_need_setup : Stmt := topS 23
abbrev N_need_setup : List Str := ["setup"]
theorem sc_need_setup : FnScope N_need_setup ["setup"] (defScope s_need_setup) := ⟨rfl, rfl, rfl, by decide +kernel, rfl, by decide +kernel, by decide +kernel⟩
@[irreducible] noncomputable def u_need_setup : Sx := (sIf (xNot (xTru (oE (eCall F_is_setup (vsC (eV 0) vsN))))) sNever sNil)
@[irreducible] noncomputable def F_need_setup : List D → Option D := runV 1 1 .rest u_need_setup
abbrev s_all_comers : Stmt := topS 24
abbrev N_all_comers : List Str := ["setup"]
theorem sc_all_comers : FnScope N_all_comers ["setup"] (defScope s_all_comers) := ⟨rfl, rfl, rfl, by decide +kernel, rfl, by decide +kernel, by decide +kernel⟩
@[irreducible] noncomputable def u_all_comers : Sx := (sSeq (sExpr (eCall F_need_setup (vsC (eV 0) vsN)))
    (sRet (eCall F_comers_of (vsC (eV 0) vsN))))
@[irreducible] noncomputable def F_all_comers : List D → Option D := runV 1 1 .fresh u_all_comers
noncomputable def F_all_comers_0_setup : List D → Option D := fun ds => match ds with | [d0] => F_all_comers [d0] | _ => none
theorem e_all_comers_0_setup {d0 : D} : F_all_comers_0_setup [d0] = F_all_comers [d0] := rfl
abbrev s__law_comers : Stmt := topS 32
abbrev N__law_comers : List Str := ["_law_shop", "_law_groups", "_law_found", "_law_some", "_law_size", "_law_singles"]
theorem sc__law_comers : FnScope N__law_comers ["_law_shop"] (defScope s__law_comers) := ⟨rfl, rfl, rfl, by decide +kernel, rfl, by decide +kernel, by decide +kernel⟩
@[irreducible] noncomputable def u__law_comers : Sx := (sSeq (sSet 1 (eOp2 addD (oE (eLst (vsC (eTup vsN) vsN))) (oE (eLc (iSeq (eOp2 ixD (oV 0) (oE (eC (D.int (1)))))) (gN 4) (xB (eOp2 gtD (oE (eOp2 ixD (oE (eOp2 ixD (oV 0) (oE (eC (D.int (3)))))) (oE (eC (D.int (0)))))) (oE (eC (D.int (0)))))) (eTup (vsC (eV 4) vsN)) [4]))))
    (sSeq (sSet 2 (eLst vsN))
    (sSeq (sFor (iSeq (eV 1)) (gN 3) (sSet 2 (eOp2 addD (oV 2) (oE (eLc (iRg1 (osC (oE (eOp2 addD (oE (eOp2 ixD (oE (eOp2 ixD (oV 0) (oE (eC (D.int (3)))))) (oE (eC (D.int (1)))))) (oE (eC (D.int (1)))))) osN)) (gN 5) xYes (eTup (vsC (eV 3) (vsC (eV 5) vsN))) [5])))))
    (sRet (eV 2)))))
@[irreducible] noncomputable def F__law_comers : List D → Option D := runV 1 6 .rest u__law_comers
abbrev s__law_is_number : Stmt := topS 33
abbrev N__law_is_number : List Str := ["_law_item", "_law_low", "_law_high"]
theorem sc__law_is_number : FnScope N__law_is_number ["_law_item", "_law_low", "_law_high"] (defScope s__law_is_number) := ⟨rfl, rfl, rfl, by decide +kernel, rfl, by decide +kernel, by decide +kernel⟩
@[irreducible] noncomputable def u__law_is_number : Sx := (sRet (eAnd (eIsi .int (oV 0)) (eAnd (eNot (eIsi .bool (oV 0))) (eChain leD leD (oV 1) (oV 0) (oV 2)))))
@[irreducible] noncomputable def F__law_is_number : List D → Option D := runV 3 3 .rest u__law_is_number
abbrev s__law_are : Stmt := topS 34
abbrev N__law_are : List Str := ["_law_item", "_law_lows", "_law_highs", "_law_k"]
theorem sc__law_are : FnScope N__law_are ["_law_item", "_law_lows", "_law_highs"] (defScope s__law_are) := ⟨rfl, rfl, rfl, by decide +kernel, rfl, by decide +kernel, by decide +kernel⟩
@[irreducible] noncomputable def u__law_are : Sx := (sSeq (sIf (xOr (xNot (xTru (oE (eIsi .tuple (oV 0))))) (xB (eOp2 neD (oE (eFn lenD (osC (oV 0) osN))) (oE (eFn lenD (osC (oV 1) osN)))))) (sRet (eC (D.bl false))) sNil)
    (sRet (eOp2 eqLD (oE (eLc (iRg1 (osC (oE (eFn lenD (osC (oV 1) osN))) osN)) (gN 3) (xNot (xTru (oE (eCall F__law_is_number (vsC (eOp2 ixD (oV 0) (oV 3)) (vsC (eOp2 ixD (oV 1) (oV 3)) (vsC (eOp2 ixD (oV 2) (oV 3)) vsN))))))) (eV 3) [3])) (oE (eLst vsN)))))
@[irreducible] noncomputable def F__law_are : List D → Option D := runV 3 4 .rest u__law_are
abbrev s__law_choice : Stmt := topS 35
abbrev N__law_choice : List Str := ["_law_item", "_law_most"]
theorem sc__law_choice : FnScope N__law_choice ["_law_item", "_law_most"] (defScope s__law_choice) := ⟨rfl, rfl, rfl, by decide +kernel, rfl, by decide +kernel, by decide +kernel⟩
@[irreducible] noncomputable def u__law_choice : Sx := (sSeq (sIf (xAnd (xNot (xTru (oE (eCall F__law_are (vsC (eV 0) (vsC (eTup (vsC (eC (D.int (1))) vsN)) (vsC (eTup (vsC (eV 1) vsN)) vsN))))))) (xNot (xTru (oE (eCall F__law_are (vsC (eV 0) (vsC (eTup (vsC (eC (D.int (1))) (vsC (eC (D.int (1))) vsN))) (vsC (eTup (vsC (eV 1) (vsC (eV 1) vsN))) vsN)))))))) (sRet (eC (D.bl false))) sNil)
    (sRet (eOr (eOp2 eqD (oE (eFn lenD (osC (oV 0) osN))) (oE (eC (D.int (1))))) (eOp2 ltD (oE (eOp2 ixD (oV 0) (oE (eC (D.int (0)))))) (oE (eOp2 ixD (oV 0) (oE (eC (D.int (1))))))))))
@[irreducible] noncomputable def F__law_choice : List D → Option D := runV 2 2 .rest u__law_choice
abbrev s__law_due_setup : Stmt := topS 36
abbrev N__law_due_setup : List Str := ["_law_item"]
theorem sc__law_due_setup : FnScope N__law_due_setup ["_law_item"] (defScope s__law_due_setup) := ⟨rfl, rfl, rfl, by decide +kernel, rfl, by decide +kernel, by decide +kernel⟩
@[irreducible] noncomputable def u__law_due_setup : Sx := (sSeq (sIf (xOr (xNot (xTru (oE (eIsi .tuple (oV 0))))) (xOr (xB (eOp2 neD (oE (eFn lenD (osC (oV 0) osN))) (oE (eC (D.int (7)))))) (xNot (xTru (oE (eCall F__law_is_number (vsC (eOp2 ixD (oV 0) (oE (eC (D.int (0))))) (vsC (eC (D.int (1))) (vsC (eC (D.int (4))) vsN))))))))) (sRet (eC (D.bl false))) sNil)
    (sSeq (sIf (xOr (xNot (xTru (oE (eCall F__law_choice (vsC (eOp2 ixD (oV 0) (oE (eC (D.int (1))))) (vsC (eOp2 ixD (oV 0) (oE (eC (D.int (0))))) vsN)))))) (xNot (xTru (oE (eCall F__law_are (vsC (eOp2 ixD (oV 0) (oE (eC (D.int (2))))) (vsC (eTup (vsC (eC (D.int (1))) (vsC (eC (D.int (0))) vsN))) (vsC (eTup (vsC (eC (D.int (2))) (vsC (eC (D.int (2))) vsN))) vsN)))))))) (sRet (eC (D.bl false))) sNil)
    (sSeq (sIf (xOr (xNot (xTru (oE (eCall F__law_are (vsC (eOp2 ixD (oV 0) (oE (eC (D.int (3))))) (vsC (eTup (vsC (eC (D.int (0))) (vsC (eC (D.int (0))) vsN))) (vsC (eTup (vsC (eC (D.int (1))) (vsC (eC (D.int (2))) vsN))) vsN))))))) (xOr (xNot (xTru (oE (eCall F__law_choice (vsC (eOp2 ixD (oV 0) (oE (eC (D.int (4))))) (vsC (eC (D.int (4))) vsN)))))) (xNot (xTru (oE (eCall F__law_is_number (vsC (eOp2 ixD (oV 0) (oE (eC (D.int (5))))) (vsC (eC (D.int (1))) (vsC (eC (D.int (3))) vsN))))))))) (sRet (eC (D.bl false))) sNil)
    (sRet (eCall F__law_are (vsC (eOp2 ixD (oV 0) (oE (eC (D.int (6))))) (vsC (eTup (vsC (eC (D.int (0))) (vsC (eC (D.int (0))) (vsC (eC (D.int (0))) (vsC (eC (D.int (0))) vsN))))) (vsC (eTup (vsC (eC (D.int (5))) (vsC (eC (D.int (5))) (vsC (eC (D.int (5))) (vsC (eC (D.int (5))) vsN))))) vsN))))))))
@[irreducible] noncomputable def F__law_due_setup : List D → Option D := runV 1 1 .rest u__law_due_setup
abbrev s_is_range : Stmt := topS 18
abbrev N_is_range : List Str := ["thing"]
theorem sc_is_range : FnScope N_is_range ["thing"] (defScope s_is_range) := ⟨rfl, rfl, rfl, by decide +kernel, rfl, by decide +kernel, by decide +kernel⟩
@[irreducible] noncomputable def u_is_range : Sx := (sRet (eAnd (eCall F_is_row_of (vsC (eV 0) (vsC (eTup (vsC (eC (D.int (0))) (vsC (eC (D.int (0))) vsN))) (vsC (eOp2 mulD (oE (eSl slD (oE (eC (D.tup [(D.int (0)), (D.int (9))]))) (pS (oE (eC (D.int (1))))) pN)) (oE (eC (D.int (2))))) vsN)))) (eOp2 leD (oE (eOp2 ixD (oV 0) (oE (eC (D.int (0)))))) (oE (eOp2 ixD (oV 0) (oE (eC (D.int (1)))))))))
@[irreducible] noncomputable def F_is_range : List D → Option D := runV 1 1 .rest u_is_range
abbrev s_is_rule_row : Stmt := topS 19
abbrev N_is_rule_row : List Str := ["thing", "deeds", "pair"]
theorem sc_is_rule_row : FnScope N_is_rule_row ["thing", "deeds"] (defScope s_is_rule_row) := ⟨rfl, rfl, rfl, by decide +kernel, rfl, by decide +kernel, by decide +kernel⟩
@[irreducible] noncomputable def u_is_rule_row : Sx := (sSeq (sIf (xOr (xNot (xTru (oE (eIsi .tuple (oV 0))))) (xB (eOp2 neD (oE (eFn lenD (osC (oV 0) osN))) (oE (eC (D.int (7))))))) (sRet (eC (D.bl false))) sNil)
    (sSeq (sIf (xOr (xNot (xTru (oE (eCall F_is_integer (vsC (eOp2 ixD (oV 0) (oE (eC (D.int (0))))) (vsC (eC (D.int (0))) (vsC (eC (D.int (2))) vsN))))))) (xNot (xTru (oE (eCall F_is_integer (vsC (eOp2 ixD (oV 0) (oE (eC (D.int (6))))) (vsC (eC (D.int (0))) (vsC (eC (D.int (2))) vsN)))))))) (sRet (eC (D.bl false))) sNil)
    (sSeq (sIf (xOr (xNot (xTru (oE (eIsi .str (oE (eOp2 ixD (oV 0) (oE (eC (D.int (5)))))))))) (xB (eOp2 niD (oE (eOp2 ixD (oV 0) (oE (eC (D.int (5)))))) (oV 1)))) (sRet (eC (D.bl false))) sNil)
    (sRet (eFn allD (osC (oE (eLc (iSeq (eSl slD (oV 0) (pS (oE (eC (D.int (1))))) (pS (oE (eC (D.int (5))))))) (gN 2) xYes (eCall F_is_range (vsC (eV 2) vsN)) [2])) osN))))))
@[irreducible] noncomputable def F_is_rule_row : List D → Option D := runV 2 3 .rest u_is_rule_row
abbrev s_is_rule_of : Stmt := topS 20
abbrev N_is_rule_of : List Str := ["thing", "deeds", "row"]
theorem sc_is_rule_of : FnScope N_is_rule_of ["thing", "deeds"] (defScope s_is_rule_of) := ⟨rfl, rfl, rfl, by decide +kernel, rfl, by decide +kernel, by decide +kernel⟩
@[irreducible] noncomputable def u_is_rule_of : Sx := (sSeq (sIf (xOr (xNot (xTru (oE (eIsi .tuple (oV 0))))) (xB (eOp2 gtD (oE (eFn lenD (osC (oV 0) osN))) (oE (eC (D.int (6))))))) (sRet (eC (D.bl false))) sNil)
    (sRet (eFn allD (osC (oE (eLc (iSeq (eV 0)) (gN 2) xYes (eCall F_is_rule_row (vsC (eV 2) (vsC (eV 1) vsN))) [2])) osN))))
@[irreducible] noncomputable def F_is_rule_of : List D → Option D := runV 2 3 .rest u_is_rule_of
abbrev s_is_seats : Stmt := topS 21
abbrev N_is_seats : List Str := ["thing"]
theorem sc_is_seats : FnScope N_is_seats ["thing"] (defScope s_is_seats) := ⟨rfl, rfl, rfl, by decide +kernel, rfl, by decide +kernel, by decide +kernel⟩
@[irreducible] noncomputable def u_is_seats : Sx := (sRet (eCall F_is_rule_of (vsC (eV 0) (vsC (eC (D.tup [(D.str "group"), (D.str "single"), (D.str "go")])) vsN))))
@[irreducible] noncomputable def F_is_seats : List D → Option D := runV 1 1 .rest u_is_seats
noncomputable def F_is_seats_0_thing : List D → Option D := fun ds => match ds with | [d0] => F_is_seats [d0] | _ => none
theorem e_is_seats_0_thing {d0 : D} : F_is_seats_0_thing [d0] = F_is_seats [d0] := rfl
abbrev s__law_due_row : Stmt := topS 37
abbrev N__law_due_row : List Str := ["_law_item", "_law_k"]
theorem sc__law_due_row : FnScope N__law_due_row ["_law_item"] (defScope s__law_due_row) := ⟨rfl, rfl, rfl, by decide +kernel, rfl, by decide +kernel, by decide +kernel⟩
@[irreducible] noncomputable def u__law_due_row : Sx := (sSeq (sIf (xOr (xNot (xTru (oE (eIsi .tuple (oV 0))))) (xB (eOp2 neD (oE (eFn lenD (osC (oV 0) osN))) (oE (eC (D.int (7))))))) (sRet (eC (D.bl false))) sNil)
    (sSeq (sFor (iSeq (eLst (vsC (eC (D.int (1))) (vsC (eC (D.int (2))) (vsC (eC (D.int (3))) (vsC (eC (D.int (4))) vsN)))))) (gN 1) (sIf (xOr (xNot (xTru (oE (eCall F__law_are (vsC (eOp2 ixD (oV 0) (oV 1)) (vsC (eTup (vsC (eC (D.int (0))) (vsC (eC (D.int (0))) vsN))) (vsC (eTup (vsC (eC (D.int (9))) (vsC (eC (D.int (9))) vsN))) vsN))))))) (xB (eOp2 gtD (oE (eOp2 ixD (oE (eOp2 ixD (oV 0) (oV 1))) (oE (eC (D.int (0)))))) (oE (eOp2 ixD (oE (eOp2 ixD (oV 0) (oV 1))) (oE (eC (D.int (1))))))))) (sRet (eC (D.bl false))) sNil))
    (sSeq (sIf (xOr (xNot (xTru (oE (eCall F__law_is_number (vsC (eOp2 ixD (oV 0) (oE (eC (D.int (0))))) (vsC (eC (D.int (0))) (vsC (eC (D.int (2))) vsN))))))) (xNot (xTru (oE (eCall F__law_is_number (vsC (eOp2 ixD (oV 0) (oE (eC (D.int (6))))) (vsC (eC (D.int (0))) (vsC (eC (D.int (2))) vsN)))))))) (sRet (eC (D.bl false))) sNil)
    (sRet (eAnd (eIsi .str (oE (eOp2 ixD (oV 0) (oE (eC (D.int (5))))))) (eOp2 inD (oE (eOp2 ixD (oV 0) (oE (eC (D.int (5)))))) (oE (eLst (vsC (eC (D.str "group")) (vsC (eC (D.str "single")) (vsC (eC (D.str "go")) vsN)))))))))))
@[irreducible] noncomputable def F__law_due_row : List D → Option D := runV 1 2 .rest u__law_due_row
abbrev s__law_due_seats : Stmt := topS 38
abbrev N__law_due_seats : List Str := ["_law_item", "_law_row_here"]
theorem sc__law_due_seats : FnScope N__law_due_seats ["_law_item"] (defScope s__law_due_seats) := ⟨rfl, rfl, rfl, by decide +kernel, rfl, by decide +kernel, by decide +kernel⟩
@[irreducible] noncomputable def u__law_due_seats : Sx := (sRet (eAnd (eIsi .tuple (oV 0)) (eAnd (eOp2 leD (oE (eFn lenD (osC (oV 0) osN))) (oE (eC (D.int (6))))) (eOp2 eqLD (oE (eLc (iSeq (eV 0)) (gN 1) (xNot (xTru (oE (eCall F__law_due_row (vsC (eV 1) vsN))))) (eV 1) [1])) (oE (eLst vsN))))))
@[irreducible] noncomputable def F__law_due_seats : List D → Option D := runV 1 2 .rest u__law_due_seats
abbrev s__law_says : Stmt := topS 41
abbrev N__law_says : List Str := ["_law_found", "_law_due"]
theorem sc__law_says : FnScope N__law_says ["_law_found", "_law_due"] (defScope s__law_says) := ⟨rfl, rfl, rfl, by decide +kernel, rfl, by decide +kernel, by decide +kernel⟩
@[irreducible] noncomputable def u__law_says : Sx := (sRet (eAnd (eIsi .bool (oV 0)) (eOp2 eqD (oV 0) (oV 1))))
@[irreducible] noncomputable def F__law_says : List D → Option D := runV 2 2 .rest u__law_says
abbrev s__law_draw : Stmt := topS 27
abbrev N__law_draw : List Str := ["_law_deck_here", "_law_many", "_law_drawn", "_law_mixed"]
theorem sc__law_draw : FnScope N__law_draw ["_law_deck_here", "_law_many"] (defScope s__law_draw) := ⟨rfl, rfl, rfl, by decide +kernel, rfl, by decide +kernel, by decide +kernel⟩
@[irreducible] noncomputable def u__law_draw : Sx := (sSeq (sIf (xB (eOp2 gtD (oE (eOp2 ixD (oV 0) (oE (eC (D.int (0)))))) (oE (eC (D.int (0)))))) (sSeq (sSet 2 (eOp2 modD (oE (eFn intD (osC (oE (eOp2 ixD (oV 0) (oE (eC (D.int (0)))))) osN))) (oV 1)))
    (sSeq (sSetIx 0 (eOp2 divD (oE (eOp2 ixD (oV 0) (oE (eC (D.int (0)))))) (oV 1)) (oE (eC (D.int (0)))))
    (sRet (eV 2)))) sNil)
    (sSeq (sSetIx 0 (eOp2 addD (oE (eOp2 ixD (oV 0) (oE (eC (D.int (2)))))) (oE (eC (D.int (1))))) (oE (eC (D.int (2)))))
    (sSeq (sSet 3 (eOp2 modD (oE (eFn intD (osC (oE (eOp2 addD (oE (eOp2 addD (oE (eOp2 mulD (oE (eOp2 ixD (oV 0) (oE (eC (D.int (1)))))) (oE (eC (D.int (40503)))))) (oE (eOp2 mulD (oE (eOp2 ixD (oV 0) (oE (eC (D.int (2)))))) (oE (eC (D.int (69069)))))))) (oE (eC (D.int (7)))))) osN))) (oE (eC (D.int (4294967291))))))
    (sSeq (sSet 3 (eOp2 modD (oE (eFn intD (osC (oE (eOp2 addD (oE (eOp2 addD (oE (eOp2 mulD (oV 3) (oV 3))) (oE (eOp2 mulD (oE (eC (D.int (17)))) (oE (eOp2 ixD (oV 0) (oE (eC (D.int (2)))))))))) (oE (eOp2 ixD (oV 0) (oE (eC (D.int (1)))))))) osN))) (oE (eC (D.int (4294967279))))))
    (sSeq (sSet 3 (eOp2 modD (oE (eFn intD (osC (oE (eOp2 addD (oE (eOp2 mulD (oV 3) (oE (eOp2 addD (oV 3) (oE (eOp2 ixD (oV 0) (oE (eC (D.int (2)))))))))) (oE (eC (D.int (3)))))) osN))) (oE (eC (D.int (4294967231))))))
    (sRet (eOp2 modD (oE (eFn intD (osC (oE (eOp2 divD (oV 3) (oE (eC (D.int (32)))))) osN))) (oV 1))))))))
@[irreducible] noncomputable def F__law_draw : D → List D → Option (D × D) := runB 2 4 .rest u__law_draw
abbrev s__law_odd : Stmt := topS 39
abbrev N__law_odd : List Str := ["_law_deck_here", "_law_some"]
theorem sc__law_odd : FnScope N__law_odd ["_law_deck_here"] (defScope s__law_odd) := ⟨rfl, rfl, rfl, by decide +kernel, rfl, by decide +kernel, by decide +kernel⟩
@[irreducible] noncomputable def u__law_odd : Sx := (sSeq (sSet 1 (eLst (vsC (eC (D.bl true)) (vsC (eC (D.bl false)) (vsC (eOp1 negD (oE (eC (D.int (1))))) (vsC (eC (D.int (0))) (vsC (eC (D.int (1))) (vsC (eC (D.int (2))) (vsC (eC (D.int (3))) (vsC (eC (D.int (5))) (vsC (eC (D.int (6))) (vsC (eC (D.int (10))) (vsC (eOp2 powD (oE (eC (D.int (10)))) (oE (eC (D.int (30))))) (vsC (eC D.non) (vsC (eC (D.str "")) (vsC (eC (D.str "0")) (vsC (eC (D.str "group")) (vsC (eC (D.str "single")) (vsC (eC (D.str "Go")) (vsC (eC (D.str "go")) (vsC (eTup vsN) (vsC (eLst vsN) (vsC eDNew vsN)))))))))))))))))))))))
    (sSeq (sSet 1 (eOp2 addD (oV 1) (oE (eLst (vsC (eTup (vsC (eC (D.int (0))) vsN)) (vsC (eTup (vsC (eC (D.int (1))) (vsC (eC (D.int (2))) vsN))) (vsC (eTup (vsC (eC (D.int (2))) (vsC (eC (D.int (1))) vsN))) (vsC (eTup (vsC (eC (D.int (2))) (vsC (eC (D.int (2))) vsN))) (vsC (eLst (vsC (eC (D.int (1))) (vsC (eC (D.int (2))) vsN))) (vsC (eTup (vsC (eC (D.int (0))) (vsC (eC (D.int (9))) vsN))) (vsC (eTup (vsC (eC (D.int (0))) (vsC (eC (D.int (10))) vsN))) (vsC (eTup (vsC (eOp1 negD (oE (eC (D.int (1))))) (vsC (eC (D.int (3))) vsN))) (vsC (eTup (vsC (eC (D.int (3))) (vsC (eC (D.int (0))) vsN))) (vsC (eTup (vsC (eC (D.bl true)) (vsC (eC (D.int (9))) vsN))) (vsC (eTup (vsC (eC (D.int (1))) (vsC (eC (D.int (2))) (vsC (eC (D.int (3))) vsN)))) (vsC (eTup (vsC (eC (D.int (4))) vsN)) (vsC (eTup (vsC (eC (D.int (5))) vsN)) (vsC (eC (D.str "small")) vsN))))))))))))))))))
    (sRet (eOp2 ixD (oV 1) (oE (eCallB F__law_draw 0 (vsC (eFn lenD (osC (oV 1) osN)) vsN)))))))
@[irreducible] noncomputable def F__law_odd : D → List D → Option (D × D) := runB 1 2 .rest u__law_odd
abbrev s__law_bent : Stmt := topS 40
abbrev N__law_bent : List Str := ["_law_deck_here", "_law_item", "_law_way", "_law_place", "_law_other", "_law_parts"]
theorem sc__law_bent : FnScope N__law_bent ["_law_deck_here", "_law_item"] (defScope s__law_bent) := ⟨rfl, rfl, rfl, by decide +kernel, rfl, by decide +kernel, by decide +kernel⟩
@[irreducible] noncomputable def u__law_bent (F__law_bent__r : D → List D → Option (D × D)) : Sx := (sSeq (sIf (xOr (xNot (xTru (oE (eIsi .tuple (oV 1))))) (xOr (xB (eOp2 eqD (oE (eFn lenD (osC (oV 1) osN))) (oE (eC (D.int (0)))))) (xB (eOp2 eqD (oE (eCallB F__law_draw 0 (vsC (eC (D.int (4))) vsN))) (oE (eC (D.int (0)))))))) (sSeq (sSet 2 (eCallB F__law_draw 0 (vsC (eC (D.int (5))) vsN)))
    (sSeq (sIf (xAnd (xTru (oE (eIsi .tuple (oV 1)))) (xAnd (xB (eOp2 gtD (oE (eFn lenD (osC (oV 1) osN))) (oE (eC (D.int (0)))))) (xB (eOp2 ltD (oV 2) (oE (eC (D.int (4)))))))) (sRet (eOp2 ixD (oE (eLst (vsC (eSl slD (oV 1) (pS (oE (eC (D.int (1))))) pN) (vsC (eSl slD (oV 1) pN (pS (oE (eOp1 negD (oE (eC (D.int (1)))))))) (vsC (eOp2 addD (oV 1) (oE (eSl slD (oV 1) pN (pS (oE (eC (D.int (1)))))))) (vsC (eFn listD (osC (oV 1) osN)) vsN)))))) (oV 2))) sNil)
    (sSeq (sIf (xAnd (xTru (oE (eIsi .int (oV 1)))) (xB (eOp2 ltD (oV 2) (oE (eC (D.int (2))))))) (sRet (eOp2 ixD (oE (eLst (vsC (eOp2 addD (oV 1) (oE (eC (D.int (1))))) (vsC (eOp2 subD (oV 1) (oE (eC (D.int (1))))) vsN)))) (oV 2))) sNil)
    (sRet (eCallB F__law_odd 0 vsN))))) sNil)
    (sSeq (sSet 3 (eCallB F__law_draw 0 (vsC (eFn lenD (osC (oV 1) osN)) vsN)))
    (sSeq (sIf (xB (eOp2 eqD (oE (eCallB F__law_draw 0 (vsC (eC (D.int (8))) vsN))) (oE (eC (D.int (0)))))) (sSeq (sSet 4 (eCallB F__law_draw 0 (vsC (eFn lenD (osC (oV 1) osN)) vsN)))
    (sSeq (sOwn 5 (eFn listD (osC (oV 1) osN)))
    (sSeq (sSwap 5 (eTup (vsC (eOp2 ixD (oV 5) (oV 4)) (vsC (eOp2 ixD (oV 5) (oV 3)) vsN))) (oV 3) 5 (oV 4))
    (sRet (eFn tupleD (osC (oV 5) osN)))))) sNil)
    (sRet (eOp2 addD (oE (eOp2 addD (oE (eSl slD (oV 1) pN (pS (oV 3)))) (oE (eTup (vsC (eCallB F__law_bent__r 0 (vsC (eOp2 ixD (oV 1) (oV 3)) vsN)) vsN))))) (oE (eSl slD (oV 1) (pS (oE (eOp2 addD (oV 3) (oE (eC (D.int (1))))))) pN)))))))
noncomputable def F__law_bent__R : Nat → D → List D → Option (D × D)
  | 0 => fun _ _ => none
  | i + 1 => runB 2 6 .rest (u__law_bent (F__law_bent__R i))
@[irreducible] noncomputable def F__law_bent : D → List D → Option (D × D) := F__law_bent__R 5
abbrev s__law_setup : Stmt := topS 28
abbrev N__law_setup : List Str := ["_law_deck_here", "_law_small", "_law_seats_here", "_law_sizes", "_law_rooms", "_law_comers_here", "_law_kinds", "_law_prices", "_law_k"]
theorem sc__law_setup : FnScope N__law_setup ["_law_deck_here", "_law_small"] (defScope s__law_setup) := ⟨rfl, rfl, rfl, by decide +kernel, rfl, by decide +kernel, by decide +kernel⟩
@[irreducible] noncomputable def u__law_setup : Sx := (sSeq (sSet 2 (eOp2 addD (oE (eC (D.int (1)))) (oE (eCallB F__law_draw 0 (vsC (eOp2 ixD (oE (eLst (vsC (eC (D.int (3))) (vsC (eC (D.int (3))) (vsC (eC (D.int (4))) (vsC (eC (D.int (4))) vsN)))))) (oE (eCallB F__law_draw 0 (vsC (eC (D.int (4))) vsN)))) vsN)))))
    (sSeq (sSet 3 (eFn tupleD (osC (oE (eFn ssetD (osC (oE (eLst (vsC (eOp2 addD (oE (eC (D.int (1)))) (oE (eCallB F__law_draw 0 (vsC (eV 2) vsN)))) (vsC (eOp2 addD (oE (eC (D.int (1)))) (oE (eCallB F__law_draw 0 (vsC (eV 2) vsN)))) vsN)))) osN))) osN)))
    (sSeq (sSet 4 (eTup (vsC (eOp2 addD (oE (eC (D.int (1)))) (oE (eCallB F__law_draw 0 (vsC (eOp2 ixD (oE (eLst (vsC (eC (D.int (2))) (vsC (eC (D.int (2))) (vsC (eC (D.int (1))) vsN))))) (oV 1)) vsN)))) (vsC (eCallB F__law_draw 0 (vsC (eOp2 ixD (oE (eLst (vsC (eC (D.int (3))) (vsC (eC (D.int (2))) (vsC (eC (D.int (2))) vsN))))) (oV 1)) vsN)) vsN))))
    (sSeq (sSet 5 (eTup (vsC (eFn intD (osC (oE (eOp2 gtD (oE (eCallB F__law_draw 0 (vsC (eC (D.int (4))) vsN))) (oE (eC (D.int (0)))))) osN)) (vsC (eCallB F__law_draw 0 (vsC (eOp2 ixD (oE (eLst (vsC (eC (D.int (3))) (vsC (eC (D.int (3))) (vsC (eC (D.int (2))) vsN))))) (oV 1)) vsN)) vsN))))
    (sSeq (sSet 6 (eFn tupleD (osC (oE (eFn ssetD (osC (oE (eLst (vsC (eOp2 addD (oE (eC (D.int (1)))) (oE (eCallB F__law_draw 0 (vsC (eOp2 subD (oE (eC (D.int (4)))) (oV 1)) vsN)))) (vsC (eOp2 addD (oE (eC (D.int (1)))) (oE (eCallB F__law_draw 0 (vsC (eOp2 subD (oE (eC (D.int (4)))) (oV 1)) vsN)))) vsN)))) osN))) osN)))
    (sSeq (sSet 7 (eFn tupleD (osC (oE (eLc (iRg1 (osC (oE (eC (D.int (4)))) osN)) (gN 8) xYes (eCallB F__law_draw 0 (vsC (eC (D.int (6))) vsN)) [8])) osN)))
    (sRet (eTup (vsC (eV 2) (vsC (eV 3) (vsC (eV 4) (vsC (eV 5) (vsC (eV 6) (vsC (eOp2 addD (oE (eC (D.int (1)))) (oE (eCallB F__law_draw 0 (vsC (eOp2 subD (oE (eC (D.int (3)))) (oE (eFn intD (osC (oE (eOp2 gtD (oV 1) (oE (eC (D.int (0)))))) osN)))) vsN)))) (vsC (eV 7) vsN)))))))))))))))
@[irreducible] noncomputable def F__law_setup : D → List D → Option (D × D) := runB 2 9 .rest u__law_setup
abbrev s__law_range : Stmt := topS 29
abbrev N__law_range : List Str := ["_law_deck_here", "_law_most", "_law_one", "_law_other"]
theorem sc__law_range : FnScope N__law_range ["_law_deck_here", "_law_most"] (defScope s__law_range) := ⟨rfl, rfl, rfl, by decide +kernel, rfl, by decide +kernel, by decide +kernel⟩
@[irreducible] noncomputable def u__law_range : Sx := (sSeq (sPar (qV 2 (eCallB F__law_draw 0 (vsC (eOp2 addD (oV 1) (oE (eC (D.int (1))))) vsN)) (qV 3 (eCallB F__law_draw 0 (vsC (eOp2 addD (oV 1) (oE (eC (D.int (1))))) vsN)) qN)))
    (sRet (eOp2 ixD (oE (eLst (vsC (eTup (vsC (eC (D.int (0))) (vsC (eC (D.int (9))) vsN))) (vsC (eTup (vsC (eC (D.int (0))) (vsC (eC (D.int (9))) vsN))) (vsC (eTup (vsC (eV 2) (vsC (eC (D.int (9))) vsN))) (vsC (eTup (vsC (eC (D.int (0))) (vsC (eV 2) vsN))) (vsC (eTup (vsC (eV 2) (vsC (eV 2) vsN))) (vsC (eTup (vsC (eFn minD (osC (oV 2) (osC (oV 3) osN))) (vsC (eFn maxD (osC (oV 2) (osC (oV 3) osN))) vsN))) vsN)))))))) (oE (eCallB F__law_draw 0 (vsC (eC (D.int (6))) vsN))))))
@[irreducible] noncomputable def F__law_range : D → List D → Option (D × D) := runB 2 4 .rest u__law_range
abbrev s__law_seats : Stmt := topS 30
abbrev N__law_seats : List Str := ["_law_deck_here", "_law_moods", "_law_deaf", "_law_found", "_law_turn", "_law_deed", "_law_ranges"]
theorem sc__law_seats : FnScope N__law_seats ["_law_deck_here", "_law_moods", "_law_deaf"] (defScope s__law_seats) := ⟨rfl, rfl, rfl, by decide +kernel, rfl, by decide +kernel, by decide +kernel⟩
@[irreducible] noncomputable def u__law_seats : Sx := (sSeq (sOwn 3 (eLst vsN))
    (sSeq (sFor (iRg1 (osC (oE (eCallB F__law_draw 0 (vsC (eOp2 ixD (oE (eLst (vsC (eC (D.int (4))) (vsC (eC (D.int (5))) (vsC (eC (D.int (7))) vsN))))) (oE (eCallB F__law_draw 0 (vsC (eC (D.int (3))) vsN)))) vsN))) osN)) (gN 4) (sSeq (sSet 5 (eOp2 ixD (oE (eLst (vsC (eC (D.str "group")) (vsC (eC (D.str "group")) (vsC (eC (D.str "single")) (vsC (eC (D.str "single")) (vsC (eC (D.str "go")) vsN))))))) (oE (eCallB F__law_draw 0 (vsC (eC (D.int (5))) vsN)))))
    (sSeq (sSet 6 (eTup (vsC (eCallB F__law_range 0 (vsC (eC (D.int (4))) vsN)) (vsC (eCallB F__law_range 0 (vsC (eC (D.int (4))) vsN)) (vsC (eCallB F__law_range 0 (vsC (eC (D.int (2))) vsN)) (vsC (eIf (xTru (oV 2)) (eTup (vsC (eC (D.int (0))) (vsC (eC (D.int (9))) vsN))) (eCallB F__law_range 0 (vsC (eC (D.int (4))) vsN))) vsN))))))
    (sExpr (eApp 3 (eOp2 addD (oE (eOp2 addD (oE (eTup (vsC (eCallB F__law_draw 0 (vsC (eV 1) vsN)) vsN))) (oV 6))) (oE (eTup (vsC (eV 5) (vsC (eCallB F__law_draw 0 (vsC (eV 1) vsN)) vsN))))))))))
    (sRet (eFn tupleD (osC (oV 3) osN)))))
@[irreducible] noncomputable def F__law_seats : D → List D → Option (D × D) := runB 3 7 .rest u__law_seats
abbrev s__law_right : Stmt := topS 42
abbrev N__law_right : List Str := ["_law_deck_here", "_law_shop", "_law_seats_here", "_law_edge", "_law_rules", "_law_setups", "_law_turn", "_law_item", "_law_kept", "_law_found"]
theorem sc__law_right : FnScope N__law_right ["_law_deck_here"] (defScope s__law_right) := ⟨rfl, rfl, rfl, by decide +kernel, rfl, by decide +kernel, by decide +kernel⟩
@[irreducible] noncomputable def u__law_right : Sx := (sSeq (sPar (qV 1 (eCallB F__law_setup 0 (vsC (eC (D.int (0))) vsN)) (qV 2 (eCallB F__law_seats 0 (vsC (eC (D.int (3))) (vsC (eOp2 eqD (oE (eCallB F__law_draw 0 (vsC (eC (D.int (2))) vsN))) (oE (eC (D.int (0))))) vsN))) qN)))
    (sSeq (sSet 3 (eTup (vsC (eC (D.int (0))) (vsC (eTup (vsC (eC (D.int (0))) (vsC (eC (D.int (9))) vsN))) (vsC (eTup (vsC (eC (D.int (9))) (vsC (eC (D.int (9))) vsN))) (vsC (eTup (vsC (eC (D.int (0))) (vsC (eC (D.int (0))) vsN))) (vsC (eTup (vsC (eC (D.int (4))) (vsC (eC (D.int (4))) vsN))) (vsC (eC (D.str "go")) (vsC (eC (D.int (2))) vsN)))))))))
    (sSeq (sOwn 4 (eLst (vsC (eV 2) (vsC (eTup vsN) (vsC (eOp2 mulD (oE (eTup (vsC (eV 3) vsN))) (oE (eC (D.int (6))))) (vsC (eOp2 mulD (oE (eTup (vsC (eV 3) vsN))) (oE (eC (D.int (7))))) (vsC (eOp2 addD (oV 2) (oE (eOp2 mulD (oE (eTup (vsC (eV 3) vsN))) (oE (eC (D.int (6))))))) (vsC (eFn listD (osC (oV 2) osN)) (vsC (eSl slD (oV 2) pN (pS (oE (eC (D.int (1)))))) (vsC (eTup (vsC (eOp2 addD (oE (eSl slD (oV 3) pN (pS (oE (eC (D.int (5))))))) (oE (eTup (vsC (eC (D.str "Group")) (vsC (eC (D.int (0))) vsN))))) vsN)) vsN))))))))))
    (sSeq (sOwn 5 (eLst (vsC (eV 1) (vsC (eSl slD (oV 1) pN (pS (oE (eC (D.int (6)))))) (vsC (eOp2 addD (oV 1) (oE (eTup (vsC (eC (D.int (0))) vsN)))) (vsC (eFn listD (osC (oV 1) osN)) (vsC (eTup (vsC (eC (D.int (4))) (vsC (eTup (vsC (eC (D.int (3))) (vsC (eC (D.int (4))) vsN))) (vsC (eTup (vsC (eC (D.int (2))) (vsC (eC (D.int (2))) vsN))) (vsC (eTup (vsC (eC (D.int (1))) (vsC (eC (D.int (2))) vsN))) (vsC (eTup (vsC (eC (D.int (1))) (vsC (eC (D.int (4))) vsN))) (vsC (eC (D.int (3))) (vsC (eTup (vsC (eC (D.int (5))) (vsC (eC (D.int (5))) (vsC (eC (D.int (5))) (vsC (eC (D.int (5))) vsN))))) vsN)))))))) vsN)))))))
    (sSeq (sOwn 5 (eOp2 catD (oV 5) (oE (eLst (vsC (eOp2 addD (oE (eTup (vsC (eC (D.int (5))) vsN))) (oE (eSl slD (oV 1) (pS (oE (eC (D.int (1))))) pN))) (vsC (eTup (vsC (eC (D.int (1))) (vsC (eTup (vsC (eC (D.int (1))) vsN)) (vsC (eTup (vsC (eC (D.int (1))) (vsC (eC (D.int (0))) vsN))) (vsC (eTup (vsC (eC (D.int (0))) (vsC (eC (D.int (0))) vsN))) (vsC (eTup (vsC (eC (D.int (4))) vsN)) (vsC (eC (D.int (1))) (vsC (eTup (vsC (eC (D.int (0))) (vsC (eC (D.int (0))) (vsC (eC (D.int (0))) (vsC (eC (D.int (0))) vsN))))) vsN)))))))) (vsC (eOp2 addD (oE (eTup (vsC (eC (D.int (0))) vsN))) (oE (eSl slD (oV 1) (pS (oE (eC (D.int (1))))) pN))) (vsC (eOp2 addD (oE (eTup (vsC (eC (D.bl true)) vsN))) (oE (eSl slD (oV 1) (pS (oE (eC (D.int (1))))) pN))) vsN))))))))
    (sSeq (sFor (iRg1 (osC (oE (eC (D.int (10)))) osN)) (gN 6) (sSeq (sExpr (eApp 5 (eCallB F__law_bent 0 (vsC (eV 1) vsN))))
    (sExpr (eApp 4 (eCallB F__law_bent 0 (vsC (eOp2 addD (oV 2) (oE (eSl slD (oE (eTup (vsC (eV 3) vsN))) pN (pS (oE (eOp2 subD (oE (eC (D.int (6)))) (oE (eFn lenD (osC (oV 2) osN))))))))) vsN))))))
    (sSeq (sFor (iSeq (eOp2 addD (oE (eOp2 addD (oV 5) (oV 4))) (oE (eLst (vsC (eC D.non) (vsC (eC (D.int (0))) (vsC (eC (D.str "setup")) (vsC eDNew vsN)))))))) (gN 7) (sSeq (sSet 8 (eFn reprU (osC (oV 7) osN)))
    (sSeq (sIf (xOr (xNot (xTru (oE (eCall F__law_says (vsC (eCall F_is_setup (vsC (eV 7) vsN)) (vsC (eCall F__law_due_setup (vsC (eV 7) vsN)) vsN)))))) (xNot (xTru (oE (eCall F__law_says (vsC (eCall F_is_seats (vsC (eV 7) vsN)) (vsC (eCall F__law_due_seats (vsC (eV 7) vsN)) vsN))))))) (sRet (eC (D.bl false))) sNil)
    (sIf (xOr (xB (eOp2 neD (oE (eCall F_is_setup_0_thing (vsC (eV 7) vsN))) (oE (eCall F__law_due_setup (vsC (eV 7) vsN))))) (xOr (xB (eOp2 neD (oE (eCall F_is_seats_0_thing (vsC (eV 7) vsN))) (oE (eCall F__law_due_seats (vsC (eV 7) vsN))))) (xB (eOp2 neD (oE (eFn reprU (osC (oV 7) osN))) (oV 8))))) (sRet (eC (D.bl false))) sNil))))
    (sSeq (sOwn 9 (eCall F_all_comers (vsC (eV 1) vsN)))
    (sSeq (sIf (xOr (xB (eOp2 neD (oV 9) (oE (eCall F__law_comers (vsC (eV 1) vsN))))) (xNot (xTru (oE (eIsi .list (oV 9)))))) (sRet (eC (D.bl false))) sNil)
    (sSeq (sExpr (eApp 9 (eC D.non)))
    (sRet (eOp2 eqD (oE (eCall F_all_comers_0_setup (vsC (eV 1) vsN))) (oE (eCall F__law_comers (vsC (eV 1) vsN)))))))))))))))
@[irreducible] noncomputable def F__law_right : D → List D → Option (D × D) := runB 1 10 .rest u__law_right
abbrev s__law_deck : Stmt := topS 26
abbrev N__law_deck : List Str := ["_law_script", "_law_at", "_law_cell"]
theorem sc__law_deck : FnScope N__law_deck ["_law_script", "_law_at"] (defScope s__law_deck) := ⟨rfl, rfl, rfl, by decide +kernel, rfl, by decide +kernel, by decide +kernel⟩
@[irreducible] noncomputable def u__law_deck : Sx := (sSeq (sSet 2 (eOp2 addD (oE (eOp2 mulD (oE (eC (D.int (29)))) (oV 1))) (oE (eC (D.int (5))))))
    (sSeq (sIf (xB (eOp2 ltD (oV 1) (oE (eFn lenD (osC (oV 0) osN))))) (sSet 2 (eOp2 ixD (oV 0) (oV 1))) sNil)
    (sRet (eLst (vsC (eFn maxD (osC (oE (eC (D.int (0)))) (osC (oE (eOp2 subD (oV 2) (oE (eOp2 powD (oE (eC (D.int (10)))) (oE (eC (D.int (18)))))))) osN))) (vsC (eOp2 addD (oE (eOp2 mulD (oE (eFn absD (osC (oV 2) osN))) (oE (eC (D.int (2)))))) (oE (eFn intD (osC (oE (eOp2 ltD (oV 2) (oE (eC (D.int (0)))))) osN)))) (vsC (eV 1) vsN)))))))
@[irreducible] noncomputable def F__law_deck : List D → Option D := runV 2 3 .fresh u__law_deck
abbrev s_law : Stmt := topS 43
abbrev N_law : List Str := ["_law_script", "_law_k"]
theorem sc_law : FnScope N_law ["_law_script"] (defScope s_law) := ⟨rfl, rfl, rfl, by decide +kernel, rfl, by decide +kernel, by decide +kernel⟩
@[irreducible] noncomputable def u_law : Sx := (sSeq (sFor (iRg1 (osC (oE (eFn maxD (osC (oE (eC (D.int (1)))) (osC (oE (eFn minD (osC (oE (eC (D.int (3)))) (osC (oE (eFn lenD (osC (oV 0) osN))) osN)))) osN)))) osN)) (gN 1) (sIf (xNot (xTru (oE (eCallT F__law_right (eCall F__law_deck (vsC (eV 0) (vsC (eV 1) vsN))))))) (sRet (eC (D.bl false))) sNil))
    (sRet (eC (D.bl true))))
@[irreducible] noncomputable def F_law : List D → Option D := runV 1 2 .rest u_law
section
variable {P : Program} {w : World} {K : PySem.W.Frag} {mg : Str → Option Value} {base : Heap} {f : Addr} {fd : FuncData} {dvs : List V}
theorem ok_comers_of (F : FunD K "comers_of" "comers_of" (defArgs s_comers_of) (defBody s_comers_of) (defScope s_comers_of) dvs [] f fd) (T : Txt K w mg)  : FnG P w K mg base 1 f fd ["setup"] (spV ⟨K, w⟩ .fresh F_comers_of) := by
  unfold F_comers_of
  exact okV (k := 0) F sc_comers_of fun cdv A outer s H E bs hgd hr => by
    unfold u_comers_of
    exact (s_seq (s_set (i := 1) sc_comers_of.nd rfl (.inl rfl) (z_f (f_lst (vs_cons (z_tup vs_nil len_vsN) vs_nil) (len_vsC len_vsN))))
    (s_seq (s_if (x_cmp oz_gt (o_e (z_ix iz_ix (o_e (z_ix iz_ix (o_var (pv 0)) (o_e z_int) (fun _ _ => rfl))) (o_e z_int) (fun _ _ => rfl))) (o_e z_int) (nomark _)) (s_one (s_set (i := 1) sc_comers_of.nd rfl (.inl rfl) (z_op oz_add (o_var (pv 1)) (o_e (z_f (f_lc (own := [("size", 4)]) rfl sc_comers_of.nd (i_seq (z_ix iz_ix (o_var (pv 0)) (o_e z_int) (fun _ _ => rfl))) (blkOk_by (own := [("size", 4)]) (N := N_comers_of) (sc := defScope s_comers_of) (by decide +kernel)) (fun _ _ _ _ _ => (g_name (i := 4) sc_comers_of.nd rfl (.inl rfl))) (fun _ _ _ _ _ => ts_nil) (fun _ _ _ _ _ => (z_tup (vs_cons (z_var (pv 4)) vs_nil) (len_vsC len_vsN))))))))) s_nil)
    (s_seq (s_own (i := 2) sc_comers_of.nd rfl (.inl rfl) (f_lst vs_nil len_vsN))
    (s_seq (s_for PassesOwn.never rfl (i_seq (z_var (pv 1))) (g_name (i := 3) sc_comers_of.nd rfl (.inr rfl)) (s_one (s_expr (z_ext (pv 2) (o_e (z_f (f_lc (own := [("singles", 5)]) rfl sc_comers_of.nd (i_rg1 (by rfl) T.m_range (os_cons (o_e (z_op oz_add (o_e (z_ix iz_ix (o_e (z_ix iz_ix (o_var (pv 0)) (o_e z_int) (fun _ _ => rfl))) (o_e z_int) (fun _ _ => rfl))) (o_e z_int))) os_nil)) (blkOk_by (own := [("singles", 5)]) (N := N_comers_of) (sc := defScope s_comers_of) (by decide +kernel)) (fun _ _ _ _ _ => (g_name (i := 5) sc_comers_of.nd rfl (.inl rfl))) (fun _ _ _ _ _ => ts_nil) (fun _ _ _ _ _ => (z_tup (vs_cons (z_var (pv 3)) (vs_cons (z_var (pv 5)) vs_nil)) (len_vsC (len_vsC len_vsN)))))))))))
    (s_one (s_retO (pv 2)))))))
theorem ok_is_integer (F : FunD K "is_integer" "is_integer" (defArgs s_is_integer) (defBody s_is_integer) (defScope s_is_integer) dvs [] f fd) (T : Txt K w mg)  : FnG P w K mg base 1 f fd ["thing", "low", "high"] (spV ⟨K, w⟩ .rest F_is_integer) := by
  unfold F_is_integer
  exact okV (k := 0) F sc_is_integer fun cdv A outer s H E bs hgd hr => by
    unfold u_is_integer
    exact (s_seq (s_if (PW.pt (w_or (x_not (x_tru (o_e (z_isi .int (by rfl) T.m_isinstance (o_var (pv 0)) (pe_ty (n := "int") (by rfl) T.m_int (by decide +kernel)))))) (w_or1 (x_tru (o_e (z_isi .bool (by rfl) T.m_isinstance (o_var (pv 0)) (pe_ty (n := "bool") (by rfl) T.m_bool (by decide +kernel)))))))) (s_one (s_ret z_bl)) s_nil)
    (s_one (s_ret (z_and (z_or (z_cmp oz_is (o_var (pv 1)) (o_e z_non) (nomark _)) (z_one (z_cmp oz_le (o_var (pv 1)) (o_var (pv 0)) (nomark _)))) (z_one (z_or (z_cmp oz_is (o_var (pv 2)) (o_e z_non) (nomark _)) (z_one (z_cmp oz_le (o_var (pv 0)) (o_var (pv 2)) (nomark _)))))))))
theorem ok_is_row_of (F : FunD K "is_row_of" "is_row_of" (defArgs s_is_row_of) (defBody s_is_row_of) (defScope s_is_row_of) dvs [] f fd) (T : Txt K w mg) (c_is_integer : CallOk P w K mg base 1 "is_integer" 3 [] (spV ⟨K, w⟩ .rest F_is_integer)) : FnG P w K mg base 2 f fd ["thing", "lows", "highs"] (spV ⟨K, w⟩ .rest F_is_row_of) := by
  unfold F_is_row_of
  exact okV (k := 1) F sc_is_row_of fun cdv A outer s H E bs hgd hr => by
    unfold u_is_row_of
    exact (s_seq (s_if (PW.pt (w_or (x_not (x_tru (o_e (z_isi .tuple (by rfl) T.m_isinstance (o_var (pv 0)) (pe_ty (n := "tuple") (by rfl) T.m_tuple (by decide +kernel)))))) (w_or1 (x_cmp (oz_ne hr.units) (o_e (z_fn cz_len (by rfl) T.m_len (by decide +kernel) (os_cons (o_var (pv 0)) os_nil))) (o_e (z_fn cz_len (by rfl) T.m_len (by decide +kernel) (os_cons (o_var (pv 1)) os_nil))) (nomark _))))) (s_one (s_ret z_bl)) s_nil)
    (s_one (s_ret (z_fn (cz_all rfl) (by rfl) T.m_all (by decide +kernel) (os_cons (o_e (z_f (f_lc (own := [("one", 3), ("low", 4), ("high", 5)]) rfl sc_is_row_of.nd (i_zip3 (by rfl) T.m_zip (vs_cons (z_var (pv 0)) (vs_cons (z_var (pv 1)) (vs_cons (z_var (pv 2)) vs_nil)))) (blkOk_by (own := [("one", 3), ("low", 4), ("high", 5)]) (N := N_is_row_of) (sc := defScope s_is_row_of) (by decide +kernel)) (fun _ _ _ _ _ => (g_un rfl (gs_cons (g_name (i := 3) sc_is_row_of.nd rfl (.inl rfl)) (gs_cons (g_name (i := 4) sc_is_row_of.nd rfl (.inl rfl)) (gs_cons (g_name (i := 5) sc_is_row_of.nd rfl (.inl rfl)) gs_nil))) (len_gsC (len_gsC (len_gsC len_gsN))))) (fun _ _ _ _ _ => ts_nil) (fun _ _ _ _ _ => (z_call c_is_integer hgd hr (by first | decide | exact Nat.le_refl _ | omega) (by rfl) (vs_cons (z_var (pv 3)) (vs_cons (z_var (pv 4)) (vs_cons (z_var (pv 5)) vs_nil))) (eqlen_C (eqlen_C (eqlen_C eqlen_N)))))))) os_nil)))))
theorem ok_is_choice (F : FunD K "is_choice" "is_choice" (defArgs s_is_choice) (defBody s_is_choice) (defScope s_is_choice) dvs [] f fd) (T : Txt K w mg) (c_is_integer : CallOk P w K mg base 1 "is_integer" 3 [] (spV ⟨K, w⟩ .rest F_is_integer)) : FnG P w K mg base 2 f fd ["thing", "most"] (spV ⟨K, w⟩ .rest F_is_choice) := by
  unfold F_is_choice
  exact okV (k := 1) F sc_is_choice fun cdv A outer s H E bs hgd hr => by
    unfold u_is_choice
    exact (s_seq (s_if (PW.pt (w_or (x_not (x_tru (o_e (z_isi .tuple (by rfl) T.m_isinstance (o_var (pv 0)) (pe_ty (n := "tuple") (by rfl) T.m_tuple (by decide +kernel)))))) (w_or1 (x_cmp (oz_ni hr.units) (o_e (z_fn cz_len (by rfl) T.m_len (by decide +kernel) (os_cons (o_var (pv 0)) os_nil))) (o_e (z_tup (vs_cons z_int (vs_cons z_int vs_nil)) (len_vsC (len_vsC len_vsN)))) (by rfl))))) (s_one (s_ret z_bl)) s_nil)
    (s_seq (s_if (x_not (x_tru (o_e (z_fn (cz_all rfl) (by rfl) T.m_all (by decide +kernel) (os_cons (o_e (z_f (f_lc (own := [("one", 2)]) rfl sc_is_choice.nd (i_seq (z_var (pv 0))) (blkOk_by (own := [("one", 2)]) (N := N_is_choice) (sc := defScope s_is_choice) (by decide +kernel)) (fun _ _ _ _ _ => (g_name (i := 2) sc_is_choice.nd rfl (.inl rfl))) (fun _ _ _ _ _ => ts_nil) (fun _ _ _ _ _ => (z_call c_is_integer hgd hr (by first | decide | exact Nat.le_refl _ | omega) (by rfl) (vs_cons (z_var (pv 2)) (vs_cons z_int (vs_cons (z_var (pv 1)) vs_nil))) (eqlen_C (eqlen_C (eqlen_C eqlen_N)))))))) os_nil))))) (s_one (s_ret z_bl)) s_nil)
    (s_one (s_ret (z_or (z_cmp (oz_eq hr.units) (o_e (z_fn cz_len (by rfl) T.m_len (by decide +kernel) (os_cons (o_var (pv 0)) os_nil))) (o_e z_int) (nomark _)) (z_one (z_cmp oz_lt (o_e (z_ix iz_ix (o_var (pv 0)) (o_e z_int) (fun _ _ => rfl))) (o_e (z_ix iz_ix (o_var (pv 0)) (o_e z_int) (fun _ _ => rfl))) (nomark _))))))))
theorem ok_is_setup (F : FunD K "is_setup" "is_setup" (defArgs s_is_setup) (defBody s_is_setup) (defScope s_is_setup) dvs [] f fd) (T : Txt K w mg) (c_is_row_of : CallOk P w K mg base 2 "is_row_of" 3 [] (spV ⟨K, w⟩ .rest F_is_row_of)) (c_is_choice : CallOk P w K mg base 2 "is_choice" 2 [] (spV ⟨K, w⟩ .rest F_is_choice)) (c_is_integer : CallOk P w K mg base 1 "is_integer" 3 [] (spV ⟨K, w⟩ .rest F_is_integer)) : FnG P w K mg base 3 f fd ["thing"] (spV ⟨K, w⟩ .rest F_is_setup) := by
  unfold F_is_setup
  exact okV (k := 2) F sc_is_setup fun cdv A outer s H E bs hgd hr => by
    unfold u_is_setup
    exact (s_seq (s_if (PW.pt (w_or (x_not (x_tru (o_e (z_isi .tuple (by rfl) T.m_isinstance (o_var (pv 0)) (pe_ty (n := "tuple") (by rfl) T.m_tuple (by decide +kernel)))))) (w_or1 (x_cmp (oz_ne hr.units) (o_e (z_fn cz_len (by rfl) T.m_len (by decide +kernel) (os_cons (o_var (pv 0)) os_nil))) (o_e z_int) (nomark _))))) (s_one (s_ret z_bl)) s_nil)
    (s_seq (s_asg (z_var (pv 0)) (g_un rfl (gs_cons (g_name (i := 1) sc_is_setup.nd rfl (.inl rfl)) (gs_cons (g_name (i := 2) sc_is_setup.nd rfl (.inl rfl)) (gs_cons (g_name (i := 3) sc_is_setup.nd rfl (.inl rfl)) (gs_cons (g_name (i := 4) sc_is_setup.nd rfl (.inl rfl)) (gs_cons (g_name (i := 5) sc_is_setup.nd rfl (.inl rfl)) (gs_cons (g_name (i := 6) sc_is_setup.nd rfl (.inl rfl)) (gs_cons (g_name (i := 7) sc_is_setup.nd rfl (.inl rfl)) gs_nil))))))) (len_gsC (len_gsC (len_gsC (len_gsC (len_gsC (len_gsC (len_gsC len_gsN)))))))))
    (s_seq (s_if (PW.pt (w_or (x_not (x_tru (o_e (z_call c_is_integer hgd hr (by first | decide | exact Nat.le_refl _ | omega) (by rfl) (vs_cons (z_var (pv 1)) (vs_cons z_int (vs_cons (z_gl (by rfl) T.g_MOST_SEATS) vs_nil))) (eqlen_C (eqlen_C (eqlen_C eqlen_N))))))) (w_or1 (x_not (x_tru (o_e (z_call c_is_choice hgd hr (by first | decide | exact Nat.le_refl _ | omega) (by rfl) (vs_cons (z_var (pv 2)) (vs_cons (z_var (pv 1)) vs_nil)) (eqlen_C (eqlen_C eqlen_N))))))))) (s_one (s_ret z_bl)) s_nil)
    (s_seq (s_if (PW.pt (w_or (x_not (x_tru (o_e (z_call c_is_row_of hgd hr (by first | decide | exact Nat.le_refl _ | omega) (by rfl) (vs_cons (z_var (pv 3)) (vs_cons (z_tup (vs_cons z_int (vs_cons z_int vs_nil)) (len_vsC (len_vsC len_vsN))) (vs_cons (z_tup (vs_cons z_int (vs_cons z_int vs_nil)) (len_vsC (len_vsC len_vsN))) vs_nil))) (eqlen_C (eqlen_C (eqlen_C eqlen_N))))))) (w_or1 (x_not (x_tru (o_e (z_call c_is_row_of hgd hr (by first | decide | exact Nat.le_refl _ | omega) (by rfl) (vs_cons (z_var (pv 4)) (vs_cons (z_tup (vs_cons z_int (vs_cons z_int vs_nil)) (len_vsC (len_vsC len_vsN))) (vs_cons (z_tup (vs_cons z_int (vs_cons z_int vs_nil)) (len_vsC (len_vsC len_vsN))) vs_nil))) (eqlen_C (eqlen_C (eqlen_C eqlen_N)))))))))) (s_one (s_ret z_bl)) s_nil)
    (s_seq (s_if (PW.pt (w_or (x_not (x_tru (o_e (z_call c_is_choice hgd hr (by first | decide | exact Nat.le_refl _ | omega) (by rfl) (vs_cons (z_var (pv 5)) (vs_cons (z_gl (by rfl) T.g_MOST_PORTIONS) vs_nil)) (eqlen_C (eqlen_C eqlen_N)))))) (w_or1 (x_not (x_tru (o_e (z_call c_is_integer hgd hr (by first | decide | exact Nat.le_refl _ | omega) (by rfl) (vs_cons (z_var (pv 6)) (vs_cons z_int (vs_cons (z_gl (by rfl) T.g_MOST_LIFE) vs_nil))) (eqlen_C (eqlen_C (eqlen_C eqlen_N)))))))))) (s_one (s_ret z_bl)) s_nil)
    (s_one (s_ret (z_call c_is_row_of hgd hr (by first | decide | exact Nat.le_refl _ | omega) (by rfl) (vs_cons (z_var (pv 7)) (vs_cons (z_tup (vs_cons z_int (vs_cons z_int (vs_cons z_int (vs_cons z_int vs_nil)))) (len_vsC (len_vsC (len_vsC (len_vsC len_vsN))))) (vs_cons (z_op oz_mul (o_e (z_tup (vs_cons (z_gl (by rfl) T.g_MOST_PRICE) vs_nil) (len_vsC len_vsN))) (o_e z_int)) vs_nil))) (eqlen_C (eqlen_C (eqlen_C eqlen_N)))))))))))
theorem ok_need_setup (F : FunD K "need_setup" "need_setup" (defArgs s_need_setup) (defBody s_need_setup) (defScope s_need_setup) dvs [] f fd) (T : Txt K w mg) (c_is_setup : CallOk P w K mg base 3 "is_setup" 1 [] (spV ⟨K, w⟩ .rest F_is_setup)) : FnG P w K mg base 4 f fd ["setup"] (spV ⟨K, w⟩ .rest F_need_setup) := by
  unfold F_need_setup
  exact okV (k := 3) F sc_need_setup fun cdv A outer s H E bs hgd hr => by
    unfold u_need_setup
    exact (s_one (s_if (x_not (x_tru (o_e (z_call c_is_setup hgd hr (by first | decide | exact Nat.le_refl _ | omega) (by rfl) (vs_cons (z_var (pv 0)) vs_nil) (eqlen_C eqlen_N))))) (s_one s_never) s_nil))
theorem ok_all_comers (F : FunD K "all_comers" "all_comers" (defArgs s_all_comers) (defBody s_all_comers) (defScope s_all_comers) dvs [] f fd) (T : Txt K w mg) (c_comers_of : CallOk P w K mg base 1 "comers_of" 1 [] (spV ⟨K, w⟩ .fresh F_comers_of)) (c_need_setup : CallOk P w K mg base 4 "need_setup" 1 [] (spV ⟨K, w⟩ .rest F_need_setup)) : FnG P w K mg base 5 f fd ["setup"] (spV ⟨K, w⟩ .fresh F_all_comers) := by
  unfold F_all_comers
  exact okV (k := 4) F sc_all_comers fun cdv A outer s H E bs hgd hr => by
    unfold u_all_comers
    exact (s_seq (s_expr (z_call c_need_setup hgd hr (by first | decide | exact Nat.le_refl _ | omega) (by rfl) (vs_cons (z_var (pv 0)) vs_nil) (eqlen_C eqlen_N)))
    (s_one (s_retF (f_call c_comers_of hgd hr (by first | decide | exact Nat.le_refl _ | omega) (by rfl) (vs_cons (z_var (pv 0)) vs_nil) (eqlen_C eqlen_N)))))
theorem ok__law_comers (F : FunD K "_law_comers" "_law_comers" (defArgs s__law_comers) (defBody s__law_comers) (defScope s__law_comers) dvs [] f fd) (T : Txt K w mg)  : FnG P w K mg base 1 f fd ["_law_shop"] (spV ⟨K, w⟩ .rest F__law_comers) := by
  unfold F__law_comers
  exact okV (k := 0) F sc__law_comers fun cdv A outer s H E bs hgd hr => by
    unfold u__law_comers
    exact (s_seq (s_set (i := 1) sc__law_comers.nd rfl (.inl rfl) (z_op oz_add (o_e (z_f (f_lst (vs_cons (z_tup vs_nil len_vsN) vs_nil) (len_vsC len_vsN)))) (o_e (z_f (f_lc (own := [("_law_size", 4)]) rfl sc__law_comers.nd (i_seq (z_ix iz_ix (o_var (pv 0)) (o_e z_int) (fun _ _ => rfl))) (blkOk_by (own := [("_law_size", 4)]) (N := N__law_comers) (sc := defScope s__law_comers) (by decide +kernel)) (fun _ _ _ _ _ => (g_name (i := 4) sc__law_comers.nd rfl (.inl rfl))) (fun _ _ _ _ _ => (ts_one (x_cmp oz_gt (o_e (z_ix iz_ix (o_e (z_ix iz_ix (o_var (pv 0)) (o_e z_int) (fun _ _ => rfl))) (o_e z_int) (fun _ _ => rfl))) (o_e z_int) (nomark _)))) (fun _ _ _ _ _ => (z_tup (vs_cons (z_var (pv 4)) vs_nil) (len_vsC len_vsN))))))))
    (s_seq (s_set (i := 2) sc__law_comers.nd rfl (.inl rfl) (z_f (f_lst vs_nil len_vsN)))
    (s_seq (s_for PassesOwn.never rfl (i_seq (z_var (pv 1))) (g_name (i := 3) sc__law_comers.nd rfl (.inr rfl)) (s_one (s_set (i := 2) sc__law_comers.nd rfl (.inl rfl) (z_op oz_add (o_var (pv 2)) (o_e (z_f (f_lc (own := [("_law_singles", 5)]) rfl sc__law_comers.nd (i_rg1 (by rfl) T.m_range (os_cons (o_e (z_op oz_add (o_e (z_ix iz_ix (o_e (z_ix iz_ix (o_var (pv 0)) (o_e z_int) (fun _ _ => rfl))) (o_e z_int) (fun _ _ => rfl))) (o_e z_int))) os_nil)) (blkOk_by (own := [("_law_singles", 5)]) (N := N__law_comers) (sc := defScope s__law_comers) (by decide +kernel)) (fun _ _ _ _ _ => (g_name (i := 5) sc__law_comers.nd rfl (.inl rfl))) (fun _ _ _ _ _ => ts_nil) (fun _ _ _ _ _ => (z_tup (vs_cons (z_var (pv 3)) (vs_cons (z_var (pv 5)) vs_nil)) (len_vsC (len_vsC len_vsN)))))))))))
    (s_one (s_ret (z_var (pv 2)))))))
theorem ok__law_is_number (F : FunD K "_law_is_number" "_law_is_number" (defArgs s__law_is_number) (defBody s__law_is_number) (defScope s__law_is_number) dvs [] f fd) (T : Txt K w mg)  : FnG P w K mg base 1 f fd ["_law_item", "_law_low", "_law_high"] (spV ⟨K, w⟩ .rest F__law_is_number) := by
  unfold F__law_is_number
  exact okV (k := 0) F sc__law_is_number fun cdv A outer s H E bs hgd hr => by
    unfold u__law_is_number
    exact (s_one (s_ret (z_and (z_isi .int (by rfl) T.m_isinstance (o_var (pv 0)) (pe_ty (n := "int") (by rfl) T.m_int (by decide +kernel))) (z_and (z_not (z_isi .bool (by rfl) T.m_isinstance (o_var (pv 0)) (pe_ty (n := "bool") (by rfl) T.m_bool (by decide +kernel)))) (z_one (z_chain oz_le oz_le (o_var (pv 1)) (o_var (pv 0)) (o_var (pv 2))))))))
theorem ok__law_are (F : FunD K "_law_are" "_law_are" (defArgs s__law_are) (defBody s__law_are) (defScope s__law_are) dvs [] f fd) (T : Txt K w mg) (c__law_is_number : CallOk P w K mg base 1 "_law_is_number" 3 [] (spV ⟨K, w⟩ .rest F__law_is_number)) : FnG P w K mg base 2 f fd ["_law_item", "_law_lows", "_law_highs"] (spV ⟨K, w⟩ .rest F__law_are) := by
  unfold F__law_are
  exact okV (k := 1) F sc__law_are fun cdv A outer s H E bs hgd hr => by
    unfold u__law_are
    exact (s_seq (s_if (PW.pt (w_or (x_not (x_tru (o_e (z_isi .tuple (by rfl) T.m_isinstance (o_var (pv 0)) (pe_ty (n := "tuple") (by rfl) T.m_tuple (by decide +kernel)))))) (w_or1 (x_cmp (oz_ne hr.units) (o_e (z_fn cz_len (by rfl) T.m_len (by decide +kernel) (os_cons (o_var (pv 0)) os_nil))) (o_e (z_fn cz_len (by rfl) T.m_len (by decide +kernel) (os_cons (o_var (pv 1)) os_nil))) (nomark _))))) (s_one (s_ret z_bl)) s_nil)
    (s_one (s_ret (z_cmp (oz_eqL hr.units) (o_e (z_f (f_lc (own := [("_law_k", 3)]) rfl sc__law_are.nd (i_rg1 (by rfl) T.m_range (os_cons (o_e (z_fn cz_len (by rfl) T.m_len (by decide +kernel) (os_cons (o_var (pv 1)) os_nil))) os_nil)) (blkOk_by (own := [("_law_k", 3)]) (N := N__law_are) (sc := defScope s__law_are) (by decide +kernel)) (fun _ _ _ _ _ => (g_name (i := 3) sc__law_are.nd rfl (.inl rfl))) (fun _ _ _ _ _ => (ts_one (x_not (x_tru (o_e (z_call c__law_is_number hgd hr (by first | decide | exact Nat.le_refl _ | omega) (by rfl) (vs_cons (z_ix iz_ix (o_var (pv 0)) (o_var (pv 3)) (fun _ _ => rfl)) (vs_cons (z_ix iz_ix (o_var (pv 1)) (o_var (pv 3)) (fun _ _ => rfl)) (vs_cons (z_ix iz_ix (o_var (pv 2)) (o_var (pv 3)) (fun _ _ => rfl)) vs_nil))) (eqlen_C (eqlen_C (eqlen_C eqlen_N))))))))) (fun _ _ _ _ _ => (z_var (pv 3)))))) (o_e (z_f (f_lst vs_nil len_vsN))) (nomark _)))))
theorem ok__law_choice (F : FunD K "_law_choice" "_law_choice" (defArgs s__law_choice) (defBody s__law_choice) (defScope s__law_choice) dvs [] f fd) (T : Txt K w mg) (c__law_are : CallOk P w K mg base 2 "_law_are" 3 [] (spV ⟨K, w⟩ .rest F__law_are)) : FnG P w K mg base 3 f fd ["_law_item", "_law_most"] (spV ⟨K, w⟩ .rest F__law_choice) := by
  unfold F__law_choice
  exact okV (k := 2) F sc__law_choice fun cdv A outer s H E bs hgd hr => by
    unfold u__law_choice
    exact (s_seq (s_if (PW.pt (w_and (x_not (x_tru (o_e (z_call c__law_are hgd hr (by first | decide | exact Nat.le_refl _ | omega) (by rfl) (vs_cons (z_var (pv 0)) (vs_cons (z_tup (vs_cons z_int vs_nil) (len_vsC len_vsN)) (vs_cons (z_tup (vs_cons (z_var (pv 1)) vs_nil) (len_vsC len_vsN)) vs_nil))) (eqlen_C (eqlen_C (eqlen_C eqlen_N))))))) (w_and1 (x_not (x_tru (o_e (z_call c__law_are hgd hr (by first | decide | exact Nat.le_refl _ | omega) (by rfl) (vs_cons (z_var (pv 0)) (vs_cons (z_tup (vs_cons z_int (vs_cons z_int vs_nil)) (len_vsC (len_vsC len_vsN))) (vs_cons (z_tup (vs_cons (z_var (pv 1)) (vs_cons (z_var (pv 1)) vs_nil)) (len_vsC (len_vsC len_vsN))) vs_nil))) (eqlen_C (eqlen_C (eqlen_C eqlen_N)))))))))) (s_one (s_ret z_bl)) s_nil)
    (s_one (s_ret (z_or (z_cmp (oz_eq hr.units) (o_e (z_fn cz_len (by rfl) T.m_len (by decide +kernel) (os_cons (o_var (pv 0)) os_nil))) (o_e z_int) (nomark _)) (z_one (z_cmp oz_lt (o_e (z_ix iz_ix (o_var (pv 0)) (o_e z_int) (fun _ _ => rfl))) (o_e (z_ix iz_ix (o_var (pv 0)) (o_e z_int) (fun _ _ => rfl))) (nomark _)))))))
theorem ok__law_due_setup (F : FunD K "_law_due_setup" "_law_due_setup" (defArgs s__law_due_setup) (defBody s__law_due_setup) (defScope s__law_due_setup) dvs [] f fd) (T : Txt K w mg) (c__law_are : CallOk P w K mg base 2 "_law_are" 3 [] (spV ⟨K, w⟩ .rest F__law_are)) (c__law_choice : CallOk P w K mg base 3 "_law_choice" 2 [] (spV ⟨K, w⟩ .rest F__law_choice)) (c__law_is_number : CallOk P w K mg base 1 "_law_is_number" 3 [] (spV ⟨K, w⟩ .rest F__law_is_number)) : FnG P w K mg base 4 f fd ["_law_item"] (spV ⟨K, w⟩ .rest F__law_due_setup) := by
  unfold F__law_due_setup
  exact okV (k := 3) F sc__law_due_setup fun cdv A outer s H E bs hgd hr => by
    unfold u__law_due_setup
    exact (s_seq (s_if (PW.pt (w_or (x_not (x_tru (o_e (z_isi .tuple (by rfl) T.m_isinstance (o_var (pv 0)) (pe_ty (n := "tuple") (by rfl) T.m_tuple (by decide +kernel)))))) (w_or (x_cmp (oz_ne hr.units) (o_e (z_fn cz_len (by rfl) T.m_len (by decide +kernel) (os_cons (o_var (pv 0)) os_nil))) (o_e z_int) (nomark _)) (w_or1 (x_not (x_tru (o_e (z_call c__law_is_number hgd hr (by first | decide | exact Nat.le_refl _ | omega) (by rfl) (vs_cons (z_ix iz_ix (o_var (pv 0)) (o_e z_int) (fun _ _ => rfl)) (vs_cons z_int (vs_cons z_int vs_nil))) (eqlen_C (eqlen_C (eqlen_C eqlen_N))))))))))) (s_one (s_ret z_bl)) s_nil)
    (s_seq (s_if (PW.pt (w_or (x_not (x_tru (o_e (z_call c__law_choice hgd hr (by first | decide | exact Nat.le_refl _ | omega) (by rfl) (vs_cons (z_ix iz_ix (o_var (pv 0)) (o_e z_int) (fun _ _ => rfl)) (vs_cons (z_ix iz_ix (o_var (pv 0)) (o_e z_int) (fun _ _ => rfl)) vs_nil)) (eqlen_C (eqlen_C eqlen_N)))))) (w_or1 (x_not (x_tru (o_e (z_call c__law_are hgd hr (by first | decide | exact Nat.le_refl _ | omega) (by rfl) (vs_cons (z_ix iz_ix (o_var (pv 0)) (o_e z_int) (fun _ _ => rfl)) (vs_cons (z_tup (vs_cons z_int (vs_cons z_int vs_nil)) (len_vsC (len_vsC len_vsN))) (vs_cons (z_tup (vs_cons z_int (vs_cons z_int vs_nil)) (len_vsC (len_vsC len_vsN))) vs_nil))) (eqlen_C (eqlen_C (eqlen_C eqlen_N)))))))))) (s_one (s_ret z_bl)) s_nil)
    (s_seq (s_if (PW.pt (w_or (x_not (x_tru (o_e (z_call c__law_are hgd hr (by first | decide | exact Nat.le_refl _ | omega) (by rfl) (vs_cons (z_ix iz_ix (o_var (pv 0)) (o_e z_int) (fun _ _ => rfl)) (vs_cons (z_tup (vs_cons z_int (vs_cons z_int vs_nil)) (len_vsC (len_vsC len_vsN))) (vs_cons (z_tup (vs_cons z_int (vs_cons z_int vs_nil)) (len_vsC (len_vsC len_vsN))) vs_nil))) (eqlen_C (eqlen_C (eqlen_C eqlen_N))))))) (w_or (x_not (x_tru (o_e (z_call c__law_choice hgd hr (by first | decide | exact Nat.le_refl _ | omega) (by rfl) (vs_cons (z_ix iz_ix (o_var (pv 0)) (o_e z_int) (fun _ _ => rfl)) (vs_cons z_int vs_nil)) (eqlen_C (eqlen_C eqlen_N)))))) (w_or1 (x_not (x_tru (o_e (z_call c__law_is_number hgd hr (by first | decide | exact Nat.le_refl _ | omega) (by rfl) (vs_cons (z_ix iz_ix (o_var (pv 0)) (o_e z_int) (fun _ _ => rfl)) (vs_cons z_int (vs_cons z_int vs_nil))) (eqlen_C (eqlen_C (eqlen_C eqlen_N))))))))))) (s_one (s_ret z_bl)) s_nil)
    (s_one (s_ret (z_call c__law_are hgd hr (by first | decide | exact Nat.le_refl _ | omega) (by rfl) (vs_cons (z_ix iz_ix (o_var (pv 0)) (o_e z_int) (fun _ _ => rfl)) (vs_cons (z_tup (vs_cons z_int (vs_cons z_int (vs_cons z_int (vs_cons z_int vs_nil)))) (len_vsC (len_vsC (len_vsC (len_vsC len_vsN))))) (vs_cons (z_tup (vs_cons z_int (vs_cons z_int (vs_cons z_int (vs_cons z_int vs_nil)))) (len_vsC (len_vsC (len_vsC (len_vsC len_vsN))))) vs_nil))) (eqlen_C (eqlen_C (eqlen_C eqlen_N)))))))))
theorem ok_is_range (F : FunD K "is_range" "is_range" (defArgs s_is_range) (defBody s_is_range) (defScope s_is_range) dvs [] f fd) (T : Txt K w mg) (c_is_row_of : CallOk P w K mg base 2 "is_row_of" 3 [] (spV ⟨K, w⟩ .rest F_is_row_of)) : FnG P w K mg base 3 f fd ["thing"] (spV ⟨K, w⟩ .rest F_is_range) := by
  unfold F_is_range
  exact okV (k := 2) F sc_is_range fun cdv A outer s H E bs hgd hr => by
    unfold u_is_range
    exact (s_one (s_ret (z_and (z_call c_is_row_of hgd hr (by first | decide | exact Nat.le_refl _ | omega) (by rfl) (vs_cons (z_var (pv 0)) (vs_cons (z_tup (vs_cons z_int (vs_cons z_int vs_nil)) (len_vsC (len_vsC len_vsN))) (vs_cons (z_op oz_mul (o_e (z_sl sz_sl (o_e (z_gl (by rfl) T.g_ANY)) (p_some (o_e z_int)) p_none)) (o_e z_int)) vs_nil))) (eqlen_C (eqlen_C (eqlen_C eqlen_N)))) (z_one (z_cmp oz_le (o_e (z_ix iz_ix (o_var (pv 0)) (o_e z_int) (fun _ _ => rfl))) (o_e (z_ix iz_ix (o_var (pv 0)) (o_e z_int) (fun _ _ => rfl))) (nomark _))))))
theorem ok_is_rule_row (F : FunD K "is_rule_row" "is_rule_row" (defArgs s_is_rule_row) (defBody s_is_rule_row) (defScope s_is_rule_row) dvs [] f fd) (T : Txt K w mg) (c_is_range : CallOk P w K mg base 3 "is_range" 1 [] (spV ⟨K, w⟩ .rest F_is_range)) (c_is_integer : CallOk P w K mg base 1 "is_integer" 3 [] (spV ⟨K, w⟩ .rest F_is_integer)) : FnG P w K mg base 4 f fd ["thing", "deeds"] (spV ⟨K, w⟩ .rest F_is_rule_row) := by
  unfold F_is_rule_row
  exact okV (k := 3) F sc_is_rule_row fun cdv A outer s H E bs hgd hr => by
    unfold u_is_rule_row
    exact (s_seq (s_if (PW.pt (w_or (x_not (x_tru (o_e (z_isi .tuple (by rfl) T.m_isinstance (o_var (pv 0)) (pe_ty (n := "tuple") (by rfl) T.m_tuple (by decide +kernel)))))) (w_or1 (x_cmp (oz_ne hr.units) (o_e (z_fn cz_len (by rfl) T.m_len (by decide +kernel) (os_cons (o_var (pv 0)) os_nil))) (o_e z_int) (nomark _))))) (s_one (s_ret z_bl)) s_nil)
    (s_seq (s_if (PW.pt (w_or (x_not (x_tru (o_e (z_call c_is_integer hgd hr (by first | decide | exact Nat.le_refl _ | omega) (by rfl) (vs_cons (z_ix iz_ix (o_var (pv 0)) (o_e z_int) (fun _ _ => rfl)) (vs_cons z_int (vs_cons (z_gl (by rfl) T.g_MOST_MOOD) vs_nil))) (eqlen_C (eqlen_C (eqlen_C eqlen_N))))))) (w_or1 (x_not (x_tru (o_e (z_call c_is_integer hgd hr (by first | decide | exact Nat.le_refl _ | omega) (by rfl) (vs_cons (z_ix iz_ix (o_var (pv 0)) (o_e z_int) (fun _ _ => rfl)) (vs_cons z_int (vs_cons (z_gl (by rfl) T.g_MOST_MOOD) vs_nil))) (eqlen_C (eqlen_C (eqlen_C eqlen_N)))))))))) (s_one (s_ret z_bl)) s_nil)
    (s_seq (s_if (PW.pt (w_or (x_not (x_tru (o_e (z_isi .str (by rfl) T.m_isinstance (o_e (z_ix iz_ix (o_var (pv 0)) (o_e z_int) (fun _ _ => rfl))) (pe_ty (n := "str") (by rfl) T.m_str (by decide +kernel)))))) (w_or1 (x_cmp (oz_ni hr.units) (o_e (z_ix iz_ix (o_var (pv 0)) (o_e z_int) (fun _ _ => rfl))) (o_var (pv 1)) (by rfl))))) (s_one (s_ret z_bl)) s_nil)
    (s_one (s_ret (z_fn (cz_all rfl) (by rfl) T.m_all (by decide +kernel) (os_cons (o_e (z_f (f_lc (own := [("pair", 2)]) rfl sc_is_rule_row.nd (i_seq (z_sl sz_sl (o_var (pv 0)) (p_some (o_e z_int)) (p_some (o_e z_int)))) (blkOk_by (own := [("pair", 2)]) (N := N_is_rule_row) (sc := defScope s_is_rule_row) (by decide +kernel)) (fun _ _ _ _ _ => (g_name (i := 2) sc_is_rule_row.nd rfl (.inl rfl))) (fun _ _ _ _ _ => ts_nil) (fun _ _ _ _ _ => (z_call c_is_range hgd hr (by first | decide | exact Nat.le_refl _ | omega) (by rfl) (vs_cons (z_var (pv 2)) vs_nil) (eqlen_C eqlen_N)))))) os_nil)))))))
theorem ok_is_rule_of (F : FunD K "is_rule_of" "is_rule_of" (defArgs s_is_rule_of) (defBody s_is_rule_of) (defScope s_is_rule_of) dvs [] f fd) (T : Txt K w mg) (c_is_rule_row : CallOk P w K mg base 4 "is_rule_row" 2 [] (spV ⟨K, w⟩ .rest F_is_rule_row)) : FnG P w K mg base 5 f fd ["thing", "deeds"] (spV ⟨K, w⟩ .rest F_is_rule_of) := by
  unfold F_is_rule_of
  exact okV (k := 4) F sc_is_rule_of fun cdv A outer s H E bs hgd hr => by
    unfold u_is_rule_of
    exact (s_seq (s_if (PW.pt (w_or (x_not (x_tru (o_e (z_isi .tuple (by rfl) T.m_isinstance (o_var (pv 0)) (pe_ty (n := "tuple") (by rfl) T.m_tuple (by decide +kernel)))))) (w_or1 (x_cmp oz_gt (o_e (z_fn cz_len (by rfl) T.m_len (by decide +kernel) (os_cons (o_var (pv 0)) os_nil))) (o_e (z_gl (by rfl) T.g_MOST_RULE)) (nomark _))))) (s_one (s_ret z_bl)) s_nil)
    (s_one (s_ret (z_fn (cz_all rfl) (by rfl) T.m_all (by decide +kernel) (os_cons (o_e (z_f (f_lc (own := [("row", 2)]) rfl sc_is_rule_of.nd (i_seq (z_var (pv 0))) (blkOk_by (own := [("row", 2)]) (N := N_is_rule_of) (sc := defScope s_is_rule_of) (by decide +kernel)) (fun _ _ _ _ _ => (g_name (i := 2) sc_is_rule_of.nd rfl (.inl rfl))) (fun _ _ _ _ _ => ts_nil) (fun _ _ _ _ _ => (z_call c_is_rule_row hgd hr (by first | decide | exact Nat.le_refl _ | omega) (by rfl) (vs_cons (z_var (pv 2)) (vs_cons (z_var (pv 1)) vs_nil)) (eqlen_C (eqlen_C eqlen_N))))))) os_nil)))))
theorem ok_is_seats (F : FunD K "is_seats" "is_seats" (defArgs s_is_seats) (defBody s_is_seats) (defScope s_is_seats) dvs [] f fd) (T : Txt K w mg) (c_is_rule_of : CallOk P w K mg base 5 "is_rule_of" 2 [] (spV ⟨K, w⟩ .rest F_is_rule_of)) : FnG P w K mg base 6 f fd ["thing"] (spV ⟨K, w⟩ .rest F_is_seats) := by
  unfold F_is_seats
  exact okV (k := 5) F sc_is_seats fun cdv A outer s H E bs hgd hr => by
    unfold u_is_seats
    exact (s_one (s_ret (z_call c_is_rule_of hgd hr (by first | decide | exact Nat.le_refl _ | omega) (by rfl) (vs_cons (z_var (pv 0)) (vs_cons (z_gl (by rfl) T.g_SEAT_DEEDS) vs_nil)) (eqlen_C (eqlen_C eqlen_N)))))
theorem ok__law_due_row (F : FunD K "_law_due_row" "_law_due_row" (defArgs s__law_due_row) (defBody s__law_due_row) (defScope s__law_due_row) dvs [] f fd) (T : Txt K w mg) (c__law_is_number : CallOk P w K mg base 1 "_law_is_number" 3 [] (spV ⟨K, w⟩ .rest F__law_is_number)) (c__law_are : CallOk P w K mg base 2 "_law_are" 3 [] (spV ⟨K, w⟩ .rest F__law_are)) : FnG P w K mg base 3 f fd ["_law_item"] (spV ⟨K, w⟩ .rest F__law_due_row) := by
  unfold F__law_due_row
  exact okV (k := 2) F sc__law_due_row fun cdv A outer s H E bs hgd hr => by
    unfold u__law_due_row
    exact (s_seq (s_if (PW.pt (w_or (x_not (x_tru (o_e (z_isi .tuple (by rfl) T.m_isinstance (o_var (pv 0)) (pe_ty (n := "tuple") (by rfl) T.m_tuple (by decide +kernel)))))) (w_or1 (x_cmp (oz_ne hr.units) (o_e (z_fn cz_len (by rfl) T.m_len (by decide +kernel) (os_cons (o_var (pv 0)) os_nil))) (o_e z_int) (nomark _))))) (s_one (s_ret z_bl)) s_nil)
    (s_seq (s_for PassesOwn.never rfl (i_seq (z_f (f_lst (vs_cons z_int (vs_cons z_int (vs_cons z_int (vs_cons z_int vs_nil)))) (len_vsC (len_vsC (len_vsC (len_vsC len_vsN))))))) (g_name (i := 1) sc__law_due_row.nd rfl (.inl rfl)) (s_one (s_if (PW.pt (w_or (x_not (x_tru (o_e (z_call c__law_are hgd hr (by first | decide | exact Nat.le_refl _ | omega) (by rfl) (vs_cons (z_ix iz_ix (o_var (pv 0)) (o_var (pv 1)) (fun _ _ => rfl)) (vs_cons (z_tup (vs_cons z_int (vs_cons z_int vs_nil)) (len_vsC (len_vsC len_vsN))) (vs_cons (z_tup (vs_cons z_int (vs_cons z_int vs_nil)) (len_vsC (len_vsC len_vsN))) vs_nil))) (eqlen_C (eqlen_C (eqlen_C eqlen_N))))))) (w_or1 (x_cmp oz_gt (o_e (z_ix iz_ix (o_e (z_ix iz_ix (o_var (pv 0)) (o_var (pv 1)) (fun _ _ => rfl))) (o_e z_int) (fun _ _ => rfl))) (o_e (z_ix iz_ix (o_e (z_ix iz_ix (o_var (pv 0)) (o_var (pv 1)) (fun _ _ => rfl))) (o_e z_int) (fun _ _ => rfl))) (nomark _))))) (s_one (s_ret z_bl)) s_nil)))
    (s_seq (s_if (PW.pt (w_or (x_not (x_tru (o_e (z_call c__law_is_number hgd hr (by first | decide | exact Nat.le_refl _ | omega) (by rfl) (vs_cons (z_ix iz_ix (o_var (pv 0)) (o_e z_int) (fun _ _ => rfl)) (vs_cons z_int (vs_cons z_int vs_nil))) (eqlen_C (eqlen_C (eqlen_C eqlen_N))))))) (w_or1 (x_not (x_tru (o_e (z_call c__law_is_number hgd hr (by first | decide | exact Nat.le_refl _ | omega) (by rfl) (vs_cons (z_ix iz_ix (o_var (pv 0)) (o_e z_int) (fun _ _ => rfl)) (vs_cons z_int (vs_cons z_int vs_nil))) (eqlen_C (eqlen_C (eqlen_C eqlen_N)))))))))) (s_one (s_ret z_bl)) s_nil)
    (s_one (s_ret (z_and (z_isi .str (by rfl) T.m_isinstance (o_e (z_ix iz_ix (o_var (pv 0)) (o_e z_int) (fun _ _ => rfl))) (pe_ty (n := "str") (by rfl) T.m_str (by decide +kernel))) (z_one (z_cmp (oz_in hr.units) (o_e (z_ix iz_ix (o_var (pv 0)) (o_e z_int) (fun _ _ => rfl))) (o_e (z_f (f_lst (vs_cons z_str (vs_cons z_str (vs_cons z_str vs_nil))) (len_vsC (len_vsC (len_vsC len_vsN)))))) (by rfl)))))))))
theorem ok__law_due_seats (F : FunD K "_law_due_seats" "_law_due_seats" (defArgs s__law_due_seats) (defBody s__law_due_seats) (defScope s__law_due_seats) dvs [] f fd) (T : Txt K w mg) (c__law_due_row : CallOk P w K mg base 3 "_law_due_row" 1 [] (spV ⟨K, w⟩ .rest F__law_due_row)) : FnG P w K mg base 4 f fd ["_law_item"] (spV ⟨K, w⟩ .rest F__law_due_seats) := by
  unfold F__law_due_seats
  exact okV (k := 3) F sc__law_due_seats fun cdv A outer s H E bs hgd hr => by
    unfold u__law_due_seats
    exact (s_one (s_ret (z_and (z_isi .tuple (by rfl) T.m_isinstance (o_var (pv 0)) (pe_ty (n := "tuple") (by rfl) T.m_tuple (by decide +kernel))) (z_and (z_cmp oz_le (o_e (z_fn cz_len (by rfl) T.m_len (by decide +kernel) (os_cons (o_var (pv 0)) os_nil))) (o_e z_int) (nomark _)) (z_one (z_cmp (oz_eqL hr.units) (o_e (z_f (f_lc (own := [("_law_row_here", 1)]) rfl sc__law_due_seats.nd (i_seq (z_var (pv 0))) (blkOk_by (own := [("_law_row_here", 1)]) (N := N__law_due_seats) (sc := defScope s__law_due_seats) (by decide +kernel)) (fun _ _ _ _ _ => (g_name (i := 1) sc__law_due_seats.nd rfl (.inl rfl))) (fun _ _ _ _ _ => (ts_one (x_not (x_tru (o_e (z_call c__law_due_row hgd hr (by first | decide | exact Nat.le_refl _ | omega) (by rfl) (vs_cons (z_var (pv 1)) vs_nil) (eqlen_C eqlen_N))))))) (fun _ _ _ _ _ => (z_var (pv 1)))))) (o_e (z_f (f_lst vs_nil len_vsN))) (nomark _)))))))
theorem ok__law_says (F : FunD K "_law_says" "_law_says" (defArgs s__law_says) (defBody s__law_says) (defScope s__law_says) dvs [] f fd) (T : Txt K w mg)  : FnG P w K mg base 1 f fd ["_law_found", "_law_due"] (spV ⟨K, w⟩ .rest F__law_says) := by
  unfold F__law_says
  exact okV (k := 0) F sc__law_says fun cdv A outer s H E bs hgd hr => by
    unfold u__law_says
    exact (s_one (s_ret (z_and (z_isi .bool (by rfl) T.m_isinstance (o_var (pv 0)) (pe_ty (n := "bool") (by rfl) T.m_bool (by decide +kernel))) (z_one (z_cmp (oz_eq hr.units) (o_var (pv 0)) (o_var (pv 1)) (nomark _))))))
theorem ok__law_draw (F : FunD K "_law_draw" "_law_draw" (defArgs s__law_draw) (defBody s__law_draw) (defScope s__law_draw) dvs [] f fd) (T : Txt K w mg)  : FnG P w K mg base 1 f fd ["_law_deck_here", "_law_many"] (spB ⟨K, w⟩ .rest F__law_draw) := by
  unfold F__law_draw
  exact okB (k := 0) F sc__law_draw fun cdv A outer s H E bs hgd hr => by
    unfold u__law_draw
    exact (s_seq (s_if (x_cmp oz_gt (o_e (z_ix iz_ix (o_var (pv 0)) (o_e z_int) (fun _ _ => rfl))) (o_e z_int) (nomark _)) (s_seq (s_set (i := 2) sc__law_draw.nd rfl (.inl rfl) (z_op oz_mod (o_e (z_tyc cz_int (by rfl) T.m_int (by decide +kernel) (os_cons (o_e (z_ix iz_ix (o_var (pv 0)) (o_e z_int) (fun _ _ => rfl))) os_nil))) (o_var (pv 1))))
    (s_seq (s_setIx (z_op oz_div (o_e (z_ix iz_ix (o_var (pv 0)) (o_e z_int) (fun _ _ => rfl))) (o_var (pv 1))) (pv 0) (o_e z_int))
    (s_one (s_ret (z_var (pv 2)))))) s_nil)
    (s_seq (s_setIx (z_op oz_add (o_e (z_ix iz_ix (o_var (pv 0)) (o_e z_int) (fun _ _ => rfl))) (o_e z_int)) (pv 0) (o_e z_int))
    (s_seq (s_set (i := 3) sc__law_draw.nd rfl (.inl rfl) (z_op oz_mod (o_e (z_tyc cz_int (by rfl) T.m_int (by decide +kernel) (os_cons (o_e (z_op oz_add (o_e (z_op oz_add (o_e (z_op oz_mul (o_e (z_ix iz_ix (o_var (pv 0)) (o_e z_int) (fun _ _ => rfl))) (o_e z_int))) (o_e (z_op oz_mul (o_e (z_ix iz_ix (o_var (pv 0)) (o_e z_int) (fun _ _ => rfl))) (o_e z_int))))) (o_e z_int))) os_nil))) (o_e z_int)))
    (s_seq (s_set (i := 3) sc__law_draw.nd rfl (.inl rfl) (z_op oz_mod (o_e (z_tyc cz_int (by rfl) T.m_int (by decide +kernel) (os_cons (o_e (z_op oz_add (o_e (z_op oz_add (o_e (z_op oz_mul (o_var (pv 3)) (o_var (pv 3)))) (o_e (z_op oz_mul (o_e z_int) (o_e (z_ix iz_ix (o_var (pv 0)) (o_e z_int) (fun _ _ => rfl))))))) (o_e (z_ix iz_ix (o_var (pv 0)) (o_e z_int) (fun _ _ => rfl))))) os_nil))) (o_e z_int)))
    (s_seq (s_set (i := 3) sc__law_draw.nd rfl (.inl rfl) (z_op oz_mod (o_e (z_tyc cz_int (by rfl) T.m_int (by decide +kernel) (os_cons (o_e (z_op oz_add (o_e (z_op oz_mul (o_var (pv 3)) (o_e (z_op oz_add (o_var (pv 3)) (o_e (z_ix iz_ix (o_var (pv 0)) (o_e z_int) (fun _ _ => rfl))))))) (o_e z_int))) os_nil))) (o_e z_int)))
    (s_one (s_ret (z_op oz_mod (o_e (z_tyc cz_int (by rfl) T.m_int (by decide +kernel) (os_cons (o_e (z_op oz_div (o_var (pv 3)) (o_e z_int))) os_nil))) (o_var (pv 1))))))))))
theorem ok__law_odd (F : FunD K "_law_odd" "_law_odd" (defArgs s__law_odd) (defBody s__law_odd) (defScope s__law_odd) dvs [] f fd) (T : Txt K w mg) (c__law_draw : CallOk P w K mg base 1 "_law_draw" 2 [] (spB ⟨K, w⟩ .rest F__law_draw)) : FnG P w K mg base 2 f fd ["_law_deck_here"] (spB ⟨K, w⟩ .rest F__law_odd) := by
  unfold F__law_odd
  exact okB (k := 1) F sc__law_odd fun cdv A outer s H E bs hgd hr => by
    unfold u__law_odd
    exact (s_seq (s_set (i := 1) sc__law_odd.nd rfl (.inl rfl) (z_f (f_lst (vs_cons z_bl (vs_cons z_bl (vs_cons (z_un oz_neg (o_e z_int)) (vs_cons z_int (vs_cons z_int (vs_cons z_int (vs_cons z_int (vs_cons z_int (vs_cons z_int (vs_cons z_int (vs_cons (z_op oz_pow (o_e z_int) (o_e z_int)) (vs_cons z_non (vs_cons z_str (vs_cons z_str (vs_cons z_str (vs_cons z_str (vs_cons z_str (vs_cons z_str (vs_cons (z_tup vs_nil len_vsN) (vs_cons (z_f (f_lst vs_nil len_vsN)) (vs_cons (z_f f_dnew) vs_nil))))))))))))))))))))) (len_vsC (len_vsC (len_vsC (len_vsC (len_vsC (len_vsC (len_vsC (len_vsC (len_vsC (len_vsC (len_vsC (len_vsC (len_vsC (len_vsC (len_vsC (len_vsC (len_vsC (len_vsC (len_vsC (len_vsC (len_vsC len_vsN))))))))))))))))))))))))
    (s_seq (s_set (i := 1) sc__law_odd.nd rfl (.inl rfl) (z_op oz_add (o_var (pv 1)) (o_e (z_f (f_lst (vs_cons (z_tup (vs_cons z_int vs_nil) (len_vsC len_vsN)) (vs_cons (z_tup (vs_cons z_int (vs_cons z_int vs_nil)) (len_vsC (len_vsC len_vsN))) (vs_cons (z_tup (vs_cons z_int (vs_cons z_int vs_nil)) (len_vsC (len_vsC len_vsN))) (vs_cons (z_tup (vs_cons z_int (vs_cons z_int vs_nil)) (len_vsC (len_vsC len_vsN))) (vs_cons (z_f (f_lst (vs_cons z_int (vs_cons z_int vs_nil)) (len_vsC (len_vsC len_vsN)))) (vs_cons (z_tup (vs_cons z_int (vs_cons z_int vs_nil)) (len_vsC (len_vsC len_vsN))) (vs_cons (z_tup (vs_cons z_int (vs_cons z_int vs_nil)) (len_vsC (len_vsC len_vsN))) (vs_cons (z_tup (vs_cons (z_un oz_neg (o_e z_int)) (vs_cons z_int vs_nil)) (len_vsC (len_vsC len_vsN))) (vs_cons (z_tup (vs_cons z_int (vs_cons z_int vs_nil)) (len_vsC (len_vsC len_vsN))) (vs_cons (z_tup (vs_cons z_bl (vs_cons z_int vs_nil)) (len_vsC (len_vsC len_vsN))) (vs_cons (z_tup (vs_cons z_int (vs_cons z_int (vs_cons z_int vs_nil))) (len_vsC (len_vsC (len_vsC len_vsN)))) (vs_cons (z_tup (vs_cons z_int vs_nil) (len_vsC len_vsN)) (vs_cons (z_tup (vs_cons z_int vs_nil) (len_vsC len_vsN)) (vs_cons z_str vs_nil)))))))))))))) (len_vsC (len_vsC (len_vsC (len_vsC (len_vsC (len_vsC (len_vsC (len_vsC (len_vsC (len_vsC (len_vsC (len_vsC (len_vsC (len_vsC len_vsN)))))))))))))))))))
    (s_one (s_ret (z_ix iz_ix (o_var (pv 1)) (o_e (z_callB c__law_draw hgd hr (by first | decide | exact Nat.le_refl _ | omega) (by rfl) (pv 0) (vs_cons (z_fn cz_len (by rfl) T.m_len (by decide +kernel) (os_cons (o_var (pv 1)) os_nil)) vs_nil) (eqlen_C eqlen_N))) (fun _ _ => rfl))))))
theorem ok__law_bent {i : Nat} (F : FunD K "_law_bent" "_law_bent" (defArgs s__law_bent) (defBody s__law_bent) (defScope s__law_bent) dvs [] f fd) (T : Txt K w mg) (c__law_draw : CallOk P w K mg base 1 "_law_draw" 2 [] (spB ⟨K, w⟩ .rest F__law_draw)) (c__law_odd : CallOk P w K mg base 2 "_law_odd" 1 [] (spB ⟨K, w⟩ .rest F__law_odd)) (c__law_bent__r : CallOk P w K mg base (2 + i) "_law_bent" 2 [] (spB ⟨K, w⟩ .rest (F__law_bent__R i))) : FnG P w K mg base (2 + i + 1) f fd ["_law_deck_here", "_law_item"] (spB ⟨K, w⟩ .rest (F__law_bent__R (i + 1))) :=
  okB (k := 2 + i) F sc__law_bent fun cdv A outer s H E bs hgd hr => by
    unfold u__law_bent
    exact (s_seq (s_if (PW.pt (w_or (x_not (x_tru (o_e (z_isi .tuple (by rfl) T.m_isinstance (o_var (pv 1)) (pe_ty (n := "tuple") (by rfl) T.m_tuple (by decide +kernel)))))) (w_or (x_cmp (oz_eq hr.units) (o_e (z_fn cz_len (by rfl) T.m_len (by decide +kernel) (os_cons (o_var (pv 1)) os_nil))) (o_e z_int) (nomark _)) (w_or1 (x_cmp (oz_eq hr.units) (o_e (z_callB c__law_draw hgd hr (by first | decide | exact Nat.le_refl _ | omega) (by rfl) (pv 0) (vs_cons z_int vs_nil) (eqlen_C eqlen_N))) (o_e z_int) (nomark _)))))) (s_seq (s_set (i := 2) sc__law_bent.nd rfl (.inl rfl) (z_callB c__law_draw hgd hr (by first | decide | exact Nat.le_refl _ | omega) (by rfl) (pv 0) (vs_cons z_int vs_nil) (eqlen_C eqlen_N)))
    (s_seq (s_if (PW.pt (w_and (x_tru (o_e (z_isi .tuple (by rfl) T.m_isinstance (o_var (pv 1)) (pe_ty (n := "tuple") (by rfl) T.m_tuple (by decide +kernel))))) (w_and (x_cmp oz_gt (o_e (z_fn cz_len (by rfl) T.m_len (by decide +kernel) (os_cons (o_var (pv 1)) os_nil))) (o_e z_int) (nomark _)) (w_and1 (x_cmp oz_lt (o_var (pv 2)) (o_e z_int) (nomark _)))))) (s_one (s_ret (z_ix iz_ix (o_e (z_f (f_lst (vs_cons (z_sl sz_sl (o_var (pv 1)) (p_some (o_e z_int)) p_none) (vs_cons (z_sl sz_sl (o_var (pv 1)) p_none (p_some (o_e (z_un oz_neg (o_e z_int))))) (vs_cons (z_op oz_add (o_var (pv 1)) (o_e (z_sl sz_sl (o_var (pv 1)) p_none (p_some (o_e z_int))))) (vs_cons (z_f (f_tyc cz_list (by rfl) T.m_list (by decide +kernel) (os_cons (o_var (pv 1)) os_nil))) vs_nil)))) (len_vsC (len_vsC (len_vsC (len_vsC len_vsN))))))) (o_var (pv 2)) (fun _ _ => rfl)))) s_nil)
    (s_seq (s_if (PW.pt (w_and (x_tru (o_e (z_isi .int (by rfl) T.m_isinstance (o_var (pv 1)) (pe_ty (n := "int") (by rfl) T.m_int (by decide +kernel))))) (w_and1 (x_cmp oz_lt (o_var (pv 2)) (o_e z_int) (nomark _))))) (s_one (s_ret (z_ix iz_ix (o_e (z_f (f_lst (vs_cons (z_op oz_add (o_var (pv 1)) (o_e z_int)) (vs_cons (z_op oz_sub (o_var (pv 1)) (o_e z_int)) vs_nil)) (len_vsC (len_vsC len_vsN))))) (o_var (pv 2)) (fun _ _ => rfl)))) s_nil)
    (s_one (s_ret (z_callB c__law_odd hgd hr (by first | decide | exact Nat.le_refl _ | omega) (by rfl) (pv 0) vs_nil eqlen_N)))))) s_nil)
    (s_seq (s_set (i := 3) sc__law_bent.nd rfl (.inl rfl) (z_callB c__law_draw hgd hr (by first | decide | exact Nat.le_refl _ | omega) (by rfl) (pv 0) (vs_cons (z_fn cz_len (by rfl) T.m_len (by decide +kernel) (os_cons (o_var (pv 1)) os_nil)) vs_nil) (eqlen_C eqlen_N)))
    (s_seq (s_if (x_cmp (oz_eq hr.units) (o_e (z_callB c__law_draw hgd hr (by first | decide | exact Nat.le_refl _ | omega) (by rfl) (pv 0) (vs_cons z_int vs_nil) (eqlen_C eqlen_N))) (o_e z_int) (nomark _)) (s_seq (s_set (i := 4) sc__law_bent.nd rfl (.inl rfl) (z_callB c__law_draw hgd hr (by first | decide | exact Nat.le_refl _ | omega) (by rfl) (pv 0) (vs_cons (z_fn cz_len (by rfl) T.m_len (by decide +kernel) (os_cons (o_var (pv 1)) os_nil)) vs_nil) (eqlen_C eqlen_N)))
    (s_seq (s_own (i := 5) sc__law_bent.nd rfl (.inl rfl) (f_tyc cz_list (by rfl) T.m_list (by decide +kernel) (os_cons (o_var (pv 1)) os_nil)))
    (s_seq (s_swap rfl (z_tup (vs_cons (z_ix iz_ix (o_var (pv 5)) (o_var (pv 4)) (fun _ _ => rfl)) (vs_cons (z_ix iz_ix (o_var (pv 5)) (o_var (pv 3)) (fun _ _ => rfl)) vs_nil)) (len_vsC (len_vsC len_vsN))) (pv 5) (o_var (pv 3)) (pv 5) (o_var (pv 4)))
    (s_one (s_ret (z_tyc cz_tuple (by rfl) T.m_tuple (by decide +kernel) (os_cons (o_var (pv 5)) os_nil))))))) s_nil)
    (s_one (s_ret (z_op oz_add (o_e (z_op oz_add (o_e (z_sl sz_sl (o_var (pv 1)) p_none (p_some (o_var (pv 3))))) (o_e (z_tup (vs_cons (z_callB c__law_bent__r hgd hr (by first | decide | exact Nat.le_refl _ | omega) (by rfl) (pv 0) (vs_cons (z_ix iz_ix (o_var (pv 1)) (o_var (pv 3)) (fun _ _ => rfl)) vs_nil) (eqlen_C eqlen_N)) vs_nil) (len_vsC len_vsN))))) (o_e (z_sl sz_sl (o_var (pv 1)) (p_some (o_e (z_op oz_add (o_var (pv 3)) (o_e z_int)))) p_none))))))))
theorem ok__law_setup (F : FunD K "_law_setup" "_law_setup" (defArgs s__law_setup) (defBody s__law_setup) (defScope s__law_setup) dvs [] f fd) (T : Txt K w mg) (c__law_draw : CallOk P w K mg base 1 "_law_draw" 2 [] (spB ⟨K, w⟩ .rest F__law_draw)) : FnG P w K mg base 2 f fd ["_law_deck_here", "_law_small"] (spB ⟨K, w⟩ .rest F__law_setup) := by
  unfold F__law_setup
  exact okB (k := 1) F sc__law_setup fun cdv A outer s H E bs hgd hr => by
    unfold u__law_setup
    exact (s_seq (s_set (i := 2) sc__law_setup.nd rfl (.inl rfl) (z_op oz_add (o_e z_int) (o_e (z_callB c__law_draw hgd hr (by first | decide | exact Nat.le_refl _ | omega) (by rfl) (pv 0) (vs_cons (z_ix iz_ix (o_e (z_f (f_lst (vs_cons z_int (vs_cons z_int (vs_cons z_int (vs_cons z_int vs_nil)))) (len_vsC (len_vsC (len_vsC (len_vsC len_vsN))))))) (o_e (z_callB c__law_draw hgd hr (by first | decide | exact Nat.le_refl _ | omega) (by rfl) (pv 0) (vs_cons z_int vs_nil) (eqlen_C eqlen_N))) (fun _ _ => rfl)) vs_nil) (eqlen_C eqlen_N)))))
    (s_seq (s_set (i := 3) sc__law_setup.nd rfl (.inl rfl) (z_tyc cz_tuple (by rfl) T.m_tuple (by decide +kernel) (os_cons (o_e (z_f (f_sset (by rfl) T.m_sorted (by rfl) T.m_set (os_cons (o_e (z_f (f_lst (vs_cons (z_op oz_add (o_e z_int) (o_e (z_callB c__law_draw hgd hr (by first | decide | exact Nat.le_refl _ | omega) (by rfl) (pv 0) (vs_cons (z_var (pv 2)) vs_nil) (eqlen_C eqlen_N)))) (vs_cons (z_op oz_add (o_e z_int) (o_e (z_callB c__law_draw hgd hr (by first | decide | exact Nat.le_refl _ | omega) (by rfl) (pv 0) (vs_cons (z_var (pv 2)) vs_nil) (eqlen_C eqlen_N)))) vs_nil)) (len_vsC (len_vsC len_vsN))))) os_nil)))) os_nil)))
    (s_seq (s_set (i := 4) sc__law_setup.nd rfl (.inl rfl) (z_tup (vs_cons (z_op oz_add (o_e z_int) (o_e (z_callB c__law_draw hgd hr (by first | decide | exact Nat.le_refl _ | omega) (by rfl) (pv 0) (vs_cons (z_ix iz_ix (o_e (z_f (f_lst (vs_cons z_int (vs_cons z_int (vs_cons z_int vs_nil))) (len_vsC (len_vsC (len_vsC len_vsN)))))) (o_var (pv 1)) (fun _ _ => rfl)) vs_nil) (eqlen_C eqlen_N)))) (vs_cons (z_callB c__law_draw hgd hr (by first | decide | exact Nat.le_refl _ | omega) (by rfl) (pv 0) (vs_cons (z_ix iz_ix (o_e (z_f (f_lst (vs_cons z_int (vs_cons z_int (vs_cons z_int vs_nil))) (len_vsC (len_vsC (len_vsC len_vsN)))))) (o_var (pv 1)) (fun _ _ => rfl)) vs_nil) (eqlen_C eqlen_N)) vs_nil)) (len_vsC (len_vsC len_vsN))))
    (s_seq (s_set (i := 5) sc__law_setup.nd rfl (.inl rfl) (z_tup (vs_cons (z_tyc cz_int (by rfl) T.m_int (by decide +kernel) (os_cons (o_e (z_cmp oz_gt (o_e (z_callB c__law_draw hgd hr (by first | decide | exact Nat.le_refl _ | omega) (by rfl) (pv 0) (vs_cons z_int vs_nil) (eqlen_C eqlen_N))) (o_e z_int) (nomark _))) os_nil)) (vs_cons (z_callB c__law_draw hgd hr (by first | decide | exact Nat.le_refl _ | omega) (by rfl) (pv 0) (vs_cons (z_ix iz_ix (o_e (z_f (f_lst (vs_cons z_int (vs_cons z_int (vs_cons z_int vs_nil))) (len_vsC (len_vsC (len_vsC len_vsN)))))) (o_var (pv 1)) (fun _ _ => rfl)) vs_nil) (eqlen_C eqlen_N)) vs_nil)) (len_vsC (len_vsC len_vsN))))
    (s_seq (s_set (i := 6) sc__law_setup.nd rfl (.inl rfl) (z_tyc cz_tuple (by rfl) T.m_tuple (by decide +kernel) (os_cons (o_e (z_f (f_sset (by rfl) T.m_sorted (by rfl) T.m_set (os_cons (o_e (z_f (f_lst (vs_cons (z_op oz_add (o_e z_int) (o_e (z_callB c__law_draw hgd hr (by first | decide | exact Nat.le_refl _ | omega) (by rfl) (pv 0) (vs_cons (z_op oz_sub (o_e z_int) (o_var (pv 1))) vs_nil) (eqlen_C eqlen_N)))) (vs_cons (z_op oz_add (o_e z_int) (o_e (z_callB c__law_draw hgd hr (by first | decide | exact Nat.le_refl _ | omega) (by rfl) (pv 0) (vs_cons (z_op oz_sub (o_e z_int) (o_var (pv 1))) vs_nil) (eqlen_C eqlen_N)))) vs_nil)) (len_vsC (len_vsC len_vsN))))) os_nil)))) os_nil)))
    (s_seq (s_set (i := 7) sc__law_setup.nd rfl (.inl rfl) (z_tyc cz_tuple (by rfl) T.m_tuple (by decide +kernel) (os_cons (o_e (z_f (f_lc (own := [("_law_k", 8)]) rfl sc__law_setup.nd (i_rg1 (by rfl) T.m_range (os_cons (o_e z_int) os_nil)) (blkOk_by (own := [("_law_k", 8)]) (N := N__law_setup) (sc := defScope s__law_setup) (by decide +kernel)) (fun _ _ _ _ _ => (g_name (i := 8) sc__law_setup.nd rfl (.inl rfl))) (fun _ _ _ _ _ => ts_nil) (fun _ _ _ _ _ => (z_callB c__law_draw hgd hr (by first | decide | exact Nat.le_refl _ | omega) (by rfl) (pv 0) (vs_cons z_int vs_nil) (eqlen_C eqlen_N)))))) os_nil)))
    (s_one (s_ret (z_tup (vs_cons (z_var (pv 2)) (vs_cons (z_var (pv 3)) (vs_cons (z_var (pv 4)) (vs_cons (z_var (pv 5)) (vs_cons (z_var (pv 6)) (vs_cons (z_op oz_add (o_e z_int) (o_e (z_callB c__law_draw hgd hr (by first | decide | exact Nat.le_refl _ | omega) (by rfl) (pv 0) (vs_cons (z_op oz_sub (o_e z_int) (o_e (z_tyc cz_int (by rfl) T.m_int (by decide +kernel) (os_cons (o_e (z_cmp oz_gt (o_var (pv 1)) (o_e z_int) (nomark _))) os_nil)))) vs_nil) (eqlen_C eqlen_N)))) (vs_cons (z_var (pv 7)) vs_nil))))))) (len_vsC (len_vsC (len_vsC (len_vsC (len_vsC (len_vsC (len_vsC len_vsN))))))))))))))))
theorem ok__law_range (F : FunD K "_law_range" "_law_range" (defArgs s__law_range) (defBody s__law_range) (defScope s__law_range) dvs [] f fd) (T : Txt K w mg) (c__law_draw : CallOk P w K mg base 1 "_law_draw" 2 [] (spB ⟨K, w⟩ .rest F__law_draw)) : FnG P w K mg base 2 f fd ["_law_deck_here", "_law_most"] (spB ⟨K, w⟩ .rest F__law_range) := by
  unfold F__law_range
  exact okB (k := 1) F sc__law_range fun cdv A outer s H E bs hgd hr => by
    unfold u__law_range
    exact (s_seq (s_par (i := 2) (j := 3) (by rfl) sc__law_range.nd rfl rfl (by decide) rfl rfl (q_val (z_callB c__law_draw hgd hr (by first | decide | exact Nat.le_refl _ | omega) (by rfl) (pv 0) (vs_cons (z_op oz_add (o_var (pv 1)) (o_e z_int)) vs_nil) (eqlen_C eqlen_N)) (q_val (z_callB c__law_draw hgd hr (by first | decide | exact Nat.le_refl _ | omega) (by rfl) (pv 0) (vs_cons (z_op oz_add (o_var (pv 1)) (o_e z_int)) vs_nil) (eqlen_C eqlen_N)) q_nil)) (by rfl))
    (s_one (s_ret (z_ix iz_ix (o_e (z_f (f_lst (vs_cons (z_tup (vs_cons z_int (vs_cons z_int vs_nil)) (len_vsC (len_vsC len_vsN))) (vs_cons (z_tup (vs_cons z_int (vs_cons z_int vs_nil)) (len_vsC (len_vsC len_vsN))) (vs_cons (z_tup (vs_cons (z_var (pv 2)) (vs_cons z_int vs_nil)) (len_vsC (len_vsC len_vsN))) (vs_cons (z_tup (vs_cons z_int (vs_cons (z_var (pv 2)) vs_nil)) (len_vsC (len_vsC len_vsN))) (vs_cons (z_tup (vs_cons (z_var (pv 2)) (vs_cons (z_var (pv 2)) vs_nil)) (len_vsC (len_vsC len_vsN))) (vs_cons (z_tup (vs_cons (z_fn (cz_min rfl) (by rfl) T.m_min (by decide +kernel) (os_cons (o_var (pv 2)) (os_cons (o_var (pv 3)) os_nil))) (vs_cons (z_fn (cz_max rfl) (by rfl) T.m_max (by decide +kernel) (os_cons (o_var (pv 2)) (os_cons (o_var (pv 3)) os_nil))) vs_nil)) (len_vsC (len_vsC len_vsN))) vs_nil)))))) (len_vsC (len_vsC (len_vsC (len_vsC (len_vsC (len_vsC len_vsN))))))))) (o_e (z_callB c__law_draw hgd hr (by first | decide | exact Nat.le_refl _ | omega) (by rfl) (pv 0) (vs_cons z_int vs_nil) (eqlen_C eqlen_N))) (fun _ _ => rfl)))))
theorem ok__law_seats (F : FunD K "_law_seats" "_law_seats" (defArgs s__law_seats) (defBody s__law_seats) (defScope s__law_seats) dvs [] f fd) (T : Txt K w mg) (c__law_draw : CallOk P w K mg base 1 "_law_draw" 2 [] (spB ⟨K, w⟩ .rest F__law_draw)) (c__law_range : CallOk P w K mg base 2 "_law_range" 2 [] (spB ⟨K, w⟩ .rest F__law_range)) : FnG P w K mg base 3 f fd ["_law_deck_here", "_law_moods", "_law_deaf"] (spB ⟨K, w⟩ .rest F__law_seats) := by
  unfold F__law_seats
  exact okB (k := 2) F sc__law_seats fun cdv A outer s H E bs hgd hr => by
    unfold u__law_seats
    exact (s_seq (s_own (i := 3) sc__law_seats.nd rfl (.inl rfl) (f_lst vs_nil len_vsN))
    (s_seq (s_for PassesOwn.never rfl (i_rg1 (by rfl) T.m_range (os_cons (o_e (z_callB c__law_draw hgd hr (by first | decide | exact Nat.le_refl _ | omega) (by rfl) (pv 0) (vs_cons (z_ix iz_ix (o_e (z_f (f_lst (vs_cons z_int (vs_cons z_int (vs_cons z_int vs_nil))) (len_vsC (len_vsC (len_vsC len_vsN)))))) (o_e (z_callB c__law_draw hgd hr (by first | decide | exact Nat.le_refl _ | omega) (by rfl) (pv 0) (vs_cons z_int vs_nil) (eqlen_C eqlen_N))) (fun _ _ => rfl)) vs_nil) (eqlen_C eqlen_N))) os_nil)) (g_name (i := 4) sc__law_seats.nd rfl (.inl rfl)) (s_seq (s_set (i := 5) sc__law_seats.nd rfl (.inl rfl) (z_ix iz_ix (o_e (z_f (f_lst (vs_cons z_str (vs_cons z_str (vs_cons z_str (vs_cons z_str (vs_cons z_str vs_nil))))) (len_vsC (len_vsC (len_vsC (len_vsC (len_vsC len_vsN)))))))) (o_e (z_callB c__law_draw hgd hr (by first | decide | exact Nat.le_refl _ | omega) (by rfl) (pv 0) (vs_cons z_int vs_nil) (eqlen_C eqlen_N))) (fun _ _ => rfl)))
    (s_seq (s_set (i := 6) sc__law_seats.nd rfl (.inl rfl) (z_tup (vs_cons (z_callB c__law_range hgd hr (by first | decide | exact Nat.le_refl _ | omega) (by rfl) (pv 0) (vs_cons z_int vs_nil) (eqlen_C eqlen_N)) (vs_cons (z_callB c__law_range hgd hr (by first | decide | exact Nat.le_refl _ | omega) (by rfl) (pv 0) (vs_cons z_int vs_nil) (eqlen_C eqlen_N)) (vs_cons (z_callB c__law_range hgd hr (by first | decide | exact Nat.le_refl _ | omega) (by rfl) (pv 0) (vs_cons z_int vs_nil) (eqlen_C eqlen_N)) (vs_cons (z_if (x_tru (o_var (pv 2))) (z_tup (vs_cons z_int (vs_cons z_int vs_nil)) (len_vsC (len_vsC len_vsN))) (z_callB c__law_range hgd hr (by first | decide | exact Nat.le_refl _ | omega) (by rfl) (pv 0) (vs_cons z_int vs_nil) (eqlen_C eqlen_N))) vs_nil)))) (len_vsC (len_vsC (len_vsC (len_vsC len_vsN))))))
    (s_one (s_expr (z_app (pv 3) (z_op oz_add (o_e (z_op oz_add (o_e (z_tup (vs_cons (z_callB c__law_draw hgd hr (by first | decide | exact Nat.le_refl _ | omega) (by rfl) (pv 0) (vs_cons (z_var (pv 1)) vs_nil) (eqlen_C eqlen_N)) vs_nil) (len_vsC len_vsN))) (o_var (pv 6)))) (o_e (z_tup (vs_cons (z_var (pv 5)) (vs_cons (z_callB c__law_draw hgd hr (by first | decide | exact Nat.le_refl _ | omega) (by rfl) (pv 0) (vs_cons (z_var (pv 1)) vs_nil) (eqlen_C eqlen_N)) vs_nil)) (len_vsC (len_vsC len_vsN)))))))))))
    (s_one (s_ret (z_tyc cz_tuple (by rfl) T.m_tuple (by decide +kernel) (os_cons (o_var (pv 3)) os_nil))))))
theorem ok__law_right (F : FunD K "_law_right" "_law_right" (defArgs s__law_right) (defBody s__law_right) (defScope s__law_right) dvs [] f fd) (T : Txt K w mg) (c_all_comers_0_setup : CallOk P w K mg base 5 "all_comers" 0 ["setup"] (spV ⟨K, w⟩ .fresh F_all_comers_0_setup)) (c_all_comers : CallOk P w K mg base 5 "all_comers" 1 [] (spV ⟨K, w⟩ .fresh F_all_comers)) (c__law_comers : CallOk P w K mg base 1 "_law_comers" 1 [] (spV ⟨K, w⟩ .rest F__law_comers)) (c_is_setup_0_thing : CallOk P w K mg base 3 "is_setup" 0 ["thing"] (spV ⟨K, w⟩ .rest F_is_setup_0_thing)) (c_is_setup : CallOk P w K mg base 3 "is_setup" 1 [] (spV ⟨K, w⟩ .rest F_is_setup)) (c__law_due_setup : CallOk P w K mg base 4 "_law_due_setup" 1 [] (spV ⟨K, w⟩ .rest F__law_due_setup)) (c_is_seats_0_thing : CallOk P w K mg base 6 "is_seats" 0 ["thing"] (spV ⟨K, w⟩ .rest F_is_seats_0_thing)) (c_is_seats : CallOk P w K mg base 6 "is_seats" 1 [] (spV ⟨K, w⟩ .rest F_is_seats)) (c__law_due_seats : CallOk P w K mg base 4 "_law_due_seats" 1 [] (spV ⟨K, w⟩ .rest F__law_due_seats)) (c__law_says : CallOk P w K mg base 1 "_law_says" 2 [] (spV ⟨K, w⟩ .rest F__law_says)) (c__law_bent : CallOk P w K mg base 7 "_law_bent" 2 [] (spB ⟨K, w⟩ .rest F__law_bent)) (c__law_setup : CallOk P w K mg base 2 "_law_setup" 2 [] (spB ⟨K, w⟩ .rest F__law_setup)) (c__law_seats : CallOk P w K mg base 3 "_law_seats" 3 [] (spB ⟨K, w⟩ .rest F__law_seats)) (c__law_draw : CallOk P w K mg base 1 "_law_draw" 2 [] (spB ⟨K, w⟩ .rest F__law_draw)) : FnG P w K mg base 8 f fd ["_law_deck_here"] (spB ⟨K, w⟩ .rest F__law_right) := by
  unfold F__law_right
  exact okB (k := 7) F sc__law_right fun cdv A outer s H E bs hgd hr => by
    unfold u__law_right
    exact (s_seq (s_par (i := 1) (j := 2) (by rfl) sc__law_right.nd rfl rfl (by decide) rfl rfl (q_val (z_callB c__law_setup hgd hr (by first | decide | exact Nat.le_refl _ | omega) (by rfl) (pv 0) (vs_cons z_int vs_nil) (eqlen_C eqlen_N)) (q_val (z_callB c__law_seats hgd hr (by first | decide | exact Nat.le_refl _ | omega) (by rfl) (pv 0) (vs_cons z_int (vs_cons (z_cmp (oz_eq hr.units) (o_e (z_callB c__law_draw hgd hr (by first | decide | exact Nat.le_refl _ | omega) (by rfl) (pv 0) (vs_cons z_int vs_nil) (eqlen_C eqlen_N))) (o_e z_int) (nomark _)) vs_nil)) (eqlen_C (eqlen_C eqlen_N))) q_nil)) (by rfl))
    (s_seq (s_set (i := 3) sc__law_right.nd rfl (.inl rfl) (z_tup (vs_cons z_int (vs_cons (z_tup (vs_cons z_int (vs_cons z_int vs_nil)) (len_vsC (len_vsC len_vsN))) (vs_cons (z_tup (vs_cons z_int (vs_cons z_int vs_nil)) (len_vsC (len_vsC len_vsN))) (vs_cons (z_tup (vs_cons z_int (vs_cons z_int vs_nil)) (len_vsC (len_vsC len_vsN))) (vs_cons (z_tup (vs_cons z_int (vs_cons z_int vs_nil)) (len_vsC (len_vsC len_vsN))) (vs_cons z_str (vs_cons z_int vs_nil))))))) (len_vsC (len_vsC (len_vsC (len_vsC (len_vsC (len_vsC (len_vsC len_vsN)))))))))
    (s_seq (s_own (i := 4) sc__law_right.nd rfl (.inl rfl) (f_lst (vs_cons (z_var (pv 2)) (vs_cons (z_tup vs_nil len_vsN) (vs_cons (z_op oz_mul (o_e (z_tup (vs_cons (z_var (pv 3)) vs_nil) (len_vsC len_vsN))) (o_e z_int)) (vs_cons (z_op oz_mul (o_e (z_tup (vs_cons (z_var (pv 3)) vs_nil) (len_vsC len_vsN))) (o_e z_int)) (vs_cons (z_op oz_add (o_var (pv 2)) (o_e (z_op oz_mul (o_e (z_tup (vs_cons (z_var (pv 3)) vs_nil) (len_vsC len_vsN))) (o_e z_int)))) (vs_cons (z_f (f_tyc cz_list (by rfl) T.m_list (by decide +kernel) (os_cons (o_var (pv 2)) os_nil))) (vs_cons (z_sl sz_sl (o_var (pv 2)) p_none (p_some (o_e z_int))) (vs_cons (z_tup (vs_cons (z_op oz_add (o_e (z_sl sz_sl (o_var (pv 3)) p_none (p_some (o_e z_int)))) (o_e (z_tup (vs_cons z_str (vs_cons z_int vs_nil)) (len_vsC (len_vsC len_vsN))))) vs_nil) (len_vsC len_vsN)) vs_nil)))))))) (len_vsC (len_vsC (len_vsC (len_vsC (len_vsC (len_vsC (len_vsC (len_vsC len_vsN))))))))))
    (s_seq (s_own (i := 5) sc__law_right.nd rfl (.inl rfl) (f_lst (vs_cons (z_var (pv 1)) (vs_cons (z_sl sz_sl (o_var (pv 1)) p_none (p_some (o_e z_int))) (vs_cons (z_op oz_add (o_var (pv 1)) (o_e (z_tup (vs_cons z_int vs_nil) (len_vsC len_vsN)))) (vs_cons (z_f (f_tyc cz_list (by rfl) T.m_list (by decide +kernel) (os_cons (o_var (pv 1)) os_nil))) (vs_cons (z_tup (vs_cons z_int (vs_cons (z_tup (vs_cons z_int (vs_cons z_int vs_nil)) (len_vsC (len_vsC len_vsN))) (vs_cons (z_tup (vs_cons z_int (vs_cons z_int vs_nil)) (len_vsC (len_vsC len_vsN))) (vs_cons (z_tup (vs_cons z_int (vs_cons z_int vs_nil)) (len_vsC (len_vsC len_vsN))) (vs_cons (z_tup (vs_cons z_int (vs_cons z_int vs_nil)) (len_vsC (len_vsC len_vsN))) (vs_cons z_int (vs_cons (z_tup (vs_cons z_int (vs_cons z_int (vs_cons z_int (vs_cons z_int vs_nil)))) (len_vsC (len_vsC (len_vsC (len_vsC len_vsN))))) vs_nil))))))) (len_vsC (len_vsC (len_vsC (len_vsC (len_vsC (len_vsC (len_vsC len_vsN)))))))) vs_nil))))) (len_vsC (len_vsC (len_vsC (len_vsC (len_vsC len_vsN)))))))
    (s_seq (s_own (i := 5) sc__law_right.nd rfl (.inl rfl) (f_op oz_cat (o_var (pv 5)) (o_e (z_f (f_lst (vs_cons (z_op oz_add (o_e (z_tup (vs_cons z_int vs_nil) (len_vsC len_vsN))) (o_e (z_sl sz_sl (o_var (pv 1)) (p_some (o_e z_int)) p_none))) (vs_cons (z_tup (vs_cons z_int (vs_cons (z_tup (vs_cons z_int vs_nil) (len_vsC len_vsN)) (vs_cons (z_tup (vs_cons z_int (vs_cons z_int vs_nil)) (len_vsC (len_vsC len_vsN))) (vs_cons (z_tup (vs_cons z_int (vs_cons z_int vs_nil)) (len_vsC (len_vsC len_vsN))) (vs_cons (z_tup (vs_cons z_int vs_nil) (len_vsC len_vsN)) (vs_cons z_int (vs_cons (z_tup (vs_cons z_int (vs_cons z_int (vs_cons z_int (vs_cons z_int vs_nil)))) (len_vsC (len_vsC (len_vsC (len_vsC len_vsN))))) vs_nil))))))) (len_vsC (len_vsC (len_vsC (len_vsC (len_vsC (len_vsC (len_vsC len_vsN)))))))) (vs_cons (z_op oz_add (o_e (z_tup (vs_cons z_int vs_nil) (len_vsC len_vsN))) (o_e (z_sl sz_sl (o_var (pv 1)) (p_some (o_e z_int)) p_none))) (vs_cons (z_op oz_add (o_e (z_tup (vs_cons z_bl vs_nil) (len_vsC len_vsN))) (o_e (z_sl sz_sl (o_var (pv 1)) (p_some (o_e z_int)) p_none))) vs_nil)))) (len_vsC (len_vsC (len_vsC (len_vsC len_vsN)))))))))
    (s_seq (s_for PassesOwn.never rfl (i_rg1 (by rfl) T.m_range (os_cons (o_e z_int) os_nil)) (g_name (i := 6) sc__law_right.nd rfl (.inl rfl)) (s_seq (s_expr (z_app (pv 5) (z_callB c__law_bent hgd hr (by first | decide | exact Nat.le_refl _ | omega) (by rfl) (pv 0) (vs_cons (z_var (pv 1)) vs_nil) (eqlen_C eqlen_N))))
    (s_one (s_expr (z_app (pv 4) (z_callB c__law_bent hgd hr (by first | decide | exact Nat.le_refl _ | omega) (by rfl) (pv 0) (vs_cons (z_op oz_add (o_var (pv 2)) (o_e (z_sl sz_sl (o_e (z_tup (vs_cons (z_var (pv 3)) vs_nil) (len_vsC len_vsN))) p_none (p_some (o_e (z_op oz_sub (o_e z_int) (o_e (z_fn cz_len (by rfl) T.m_len (by decide +kernel) (os_cons (o_var (pv 2)) os_nil))))))))) vs_nil) (eqlen_C eqlen_N)))))))
    (s_seq (s_for PassesOwn.never rfl (i_seq (z_op oz_add (o_e (z_op oz_add (o_var (pv 5)) (o_var (pv 4)))) (o_e (z_f (f_lst (vs_cons z_non (vs_cons z_int (vs_cons z_str (vs_cons (z_f f_dnew) vs_nil)))) (len_vsC (len_vsC (len_vsC (len_vsC len_vsN))))))))) (g_name (i := 7) sc__law_right.nd rfl (.inl rfl)) (s_seq (s_set (i := 8) sc__law_right.nd rfl (.inl rfl) (z_fn (cz_reprU hgd hr.units) (by rfl) T.m_repr (by decide +kernel) (os_cons (o_var (pv 7)) os_nil)))
    (s_seq (s_if (PW.pt (w_or (x_not (x_tru (o_e (z_call c__law_says hgd hr (by first | decide | exact Nat.le_refl _ | omega) (by rfl) (vs_cons (z_call c_is_setup hgd hr (by first | decide | exact Nat.le_refl _ | omega) (by rfl) (vs_cons (z_var (pv 7)) vs_nil) (eqlen_C eqlen_N)) (vs_cons (z_call c__law_due_setup hgd hr (by first | decide | exact Nat.le_refl _ | omega) (by rfl) (vs_cons (z_var (pv 7)) vs_nil) (eqlen_C eqlen_N)) vs_nil)) (eqlen_C (eqlen_C eqlen_N)))))) (w_or1 (x_not (x_tru (o_e (z_call c__law_says hgd hr (by first | decide | exact Nat.le_refl _ | omega) (by rfl) (vs_cons (z_call c_is_seats hgd hr (by first | decide | exact Nat.le_refl _ | omega) (by rfl) (vs_cons (z_var (pv 7)) vs_nil) (eqlen_C eqlen_N)) (vs_cons (z_call c__law_due_seats hgd hr (by first | decide | exact Nat.le_refl _ | omega) (by rfl) (vs_cons (z_var (pv 7)) vs_nil) (eqlen_C eqlen_N)) vs_nil)) (eqlen_C (eqlen_C eqlen_N))))))))) (s_one (s_ret z_bl)) s_nil)
    (s_one (s_if (PW.pt (w_or (x_cmp (oz_ne hr.units) (o_e (z_callk c_is_setup_0_thing hgd hr (by first | decide | exact Nat.le_refl _ | omega) (by rfl) (k_cons (z_var (pv 7)) k_nil) (eqlen_C eqlen_N))) (o_e (z_call c__law_due_setup hgd hr (by first | decide | exact Nat.le_refl _ | omega) (by rfl) (vs_cons (z_var (pv 7)) vs_nil) (eqlen_C eqlen_N))) (nomark _)) (w_or (x_cmp (oz_ne hr.units) (o_e (z_callk c_is_seats_0_thing hgd hr (by first | decide | exact Nat.le_refl _ | omega) (by rfl) (k_cons (z_var (pv 7)) k_nil) (eqlen_C eqlen_N))) (o_e (z_call c__law_due_seats hgd hr (by first | decide | exact Nat.le_refl _ | omega) (by rfl) (vs_cons (z_var (pv 7)) vs_nil) (eqlen_C eqlen_N))) (nomark _)) (w_or1 (x_cmp (oz_ne hr.units) (o_e (z_fn (cz_reprU hgd hr.units) (by rfl) T.m_repr (by decide +kernel) (os_cons (o_var (pv 7)) os_nil))) (o_var (pv 8)) (nomark _)))))) (s_one (s_ret z_bl)) s_nil)))))
    (s_seq (s_own (i := 9) sc__law_right.nd rfl (.inl rfl) (f_call c_all_comers hgd hr (by first | decide | exact Nat.le_refl _ | omega) (by rfl) (vs_cons (z_var (pv 1)) vs_nil) (eqlen_C eqlen_N)))
    (s_seq (s_if (PW.pt (w_or (x_cmp (oz_ne hr.units) (o_var (pv 9)) (o_e (z_call c__law_comers hgd hr (by first | decide | exact Nat.le_refl _ | omega) (by rfl) (vs_cons (z_var (pv 1)) vs_nil) (eqlen_C eqlen_N))) (nomark _)) (w_or1 (x_not (x_tru (o_e (z_isi .list (by rfl) T.m_isinstance (o_var (pv 9)) (pe_ty (n := "list") (by rfl) T.m_list (by decide +kernel))))))))) (s_one (s_ret z_bl)) s_nil)
    (s_seq (s_expr (z_app (pv 9) z_non))
    (s_one (s_ret (z_cmp (oz_eq hr.units) (o_e (z_f (f_callk c_all_comers_0_setup hgd hr (by first | decide | exact Nat.le_refl _ | omega) (by rfl) (k_cons (z_var (pv 1)) k_nil) (eqlen_C eqlen_N)))) (o_e (z_call c__law_comers hgd hr (by first | decide | exact Nat.le_refl _ | omega) (by rfl) (vs_cons (z_var (pv 1)) vs_nil) (eqlen_C eqlen_N))) (nomark _))))))))))))))
theorem ok__law_deck (F : FunD K "_law_deck" "_law_deck" (defArgs s__law_deck) (defBody s__law_deck) (defScope s__law_deck) dvs [] f fd) (T : Txt K w mg)  : FnG P w K mg base 1 f fd ["_law_script", "_law_at"] (spV ⟨K, w⟩ .fresh F__law_deck) := by
  unfold F__law_deck
  exact okV (k := 0) F sc__law_deck fun cdv A outer s H E bs hgd hr => by
    unfold u__law_deck
    exact (s_seq (s_set (i := 2) sc__law_deck.nd rfl (.inl rfl) (z_op oz_add (o_e (z_op oz_mul (o_e z_int) (o_var (pv 1)))) (o_e z_int)))
    (s_seq (s_if (x_cmp oz_lt (o_var (pv 1)) (o_e (z_fn cz_len (by rfl) T.m_len (by decide +kernel) (os_cons (o_var (pv 0)) os_nil))) (nomark _)) (s_one (s_set (i := 2) sc__law_deck.nd rfl (.inl rfl) (z_ix iz_ix (o_var (pv 0)) (o_var (pv 1)) (fun _ _ => rfl)))) s_nil)
    (s_one (s_retF (f_lst (vs_cons (z_fn (cz_max rfl) (by rfl) T.m_max (by decide +kernel) (os_cons (o_e z_int) (os_cons (o_e (z_op oz_sub (o_var (pv 2)) (o_e (z_op oz_pow (o_e z_int) (o_e z_int))))) os_nil))) (vs_cons (z_op oz_add (o_e (z_op oz_mul (o_e (z_fn cz_abs (by rfl) T.m_abs (by decide +kernel) (os_cons (o_var (pv 2)) os_nil))) (o_e z_int))) (o_e (z_tyc cz_int (by rfl) T.m_int (by decide +kernel) (os_cons (o_e (z_cmp oz_lt (o_var (pv 2)) (o_e z_int) (nomark _))) os_nil)))) (vs_cons (z_var (pv 1)) vs_nil))) (len_vsC (len_vsC (len_vsC len_vsN))))))))
theorem ok_law (F : FunD K "law" "law" (defArgs s_law) (defBody s_law) (defScope s_law) dvs [] f fd) (T : Txt K w mg) (c__law_right : CallOk P w K mg base 8 "_law_right" 1 [] (spB ⟨K, w⟩ .rest F__law_right)) (c__law_deck : CallOk P w K mg base 1 "_law_deck" 2 [] (spV ⟨K, w⟩ .fresh F__law_deck)) : FnG P w K mg base 9 f fd ["_law_script"] (spV ⟨K, w⟩ .rest F_law) := by
  unfold F_law
  exact okV (k := 8) F sc_law fun cdv A outer s H E bs hgd hr => by
    unfold u_law
    exact (s_seq (s_for PassesOwn.never rfl (i_rg1 (by rfl) T.m_range (os_cons (o_e (z_fn (cz_max rfl) (by rfl) T.m_max (by decide +kernel) (os_cons (o_e z_int) (os_cons (o_e (z_fn (cz_min rfl) (by rfl) T.m_min (by decide +kernel) (os_cons (o_e z_int) (os_cons (o_e (z_fn cz_len (by rfl) T.m_len (by decide +kernel) (os_cons (o_var (pv 0)) os_nil))) os_nil)))) os_nil)))) os_nil)) (g_name (i := 1) sc_law.nd rfl (.inl rfl)) (s_one (s_if (x_not (x_tru (o_e (z_callT c__law_right hgd hr (by first | decide | exact Nat.le_refl _ | omega) (by rfl) (f_call c__law_deck hgd hr (by first | decide | exact Nat.le_refl _ | omega) (by rfl) (vs_cons (z_var (pv 0)) (vs_cons (z_var (pv 1)) vs_nil)) (eqlen_C (eqlen_C eqlen_N))))))) (s_one (s_ret z_bl)) s_nil)))
    (s_one (s_ret z_bl)))
end
def g_is_setup_0_thing {α : Type} (vs zs : List α) : List α := match vs, zs with | [], [v0] => [v0] | _, _ => []
theorem re_is_setup_0_thing {K : KW} : ∀ (vs zs : List V) H Q, vs.length = 0 → zs.length = 1 → spV K .rest F_is_setup_0_thing (vs ++ zs) H Q E0 → spV K .rest F_is_setup (g_is_setup_0_thing vs zs) H Q E0 := fun vs zs H Q h1 h2 ⟨Hf, ds, r, z, rr, e, qq⟩ => match vs, zs, ds, h1, h2, rr, e with | [], [v0], [d0], _, _, .cons r0 (.nil), e => ⟨Hf, [d0], r, z, .cons r0 (.nil), e, qq⟩
def g_all_comers_0_setup {α : Type} (vs zs : List α) : List α := match vs, zs with | [], [v0] => [v0] | _, _ => []
theorem re_all_comers_0_setup {K : KW} : ∀ (vs zs : List V) H Q, vs.length = 0 → zs.length = 1 → spV K .fresh F_all_comers_0_setup (vs ++ zs) H Q E0 → spV K .fresh F_all_comers (g_all_comers_0_setup vs zs) H Q E0 := fun vs zs H Q h1 h2 ⟨Hf, ds, r, z, rr, e, qq⟩ => match vs, zs, ds, h1, h2, rr, e with | [], [v0], [d0], _, _, .cons r0 (.nil), e => ⟨Hf, [d0], r, z, .cons r0 (.nil), e, qq⟩
def g_is_seats_0_thing {α : Type} (vs zs : List α) : List α := match vs, zs with | [], [v0] => [v0] | _, _ => []
theorem re_is_seats_0_thing {K : KW} : ∀ (vs zs : List V) H Q, vs.length = 0 → zs.length = 1 → spV K .rest F_is_seats_0_thing (vs ++ zs) H Q E0 → spV K .rest F_is_seats (g_is_seats_0_thing vs zs) H Q E0 := fun vs zs H Q h1 h2 ⟨Hf, ds, r, z, rr, e, qq⟩ => match vs, zs, ds, h1, h2, rr, e with | [], [v0], [d0], _, _, .cons r0 (.nil), e => ⟨Hf, [d0], r, z, .cons r0 (.nil), e, qq⟩
theorem kn_is_setup_0_thing {α : Type} {vs zs : List α} (h : ¬(vs.length = 0 ∧ zs.length = 1)) : g_is_setup_0_thing vs zs = [] := by
  unfold g_is_setup_0_thing
  split
  · exact absurd ⟨rfl, rfl⟩ h
  · rfl
theorem kr_is_setup_0_thing {vs : List V} {us : List Value} {zs : List V} {ws : List Value} (r1 : Vals vs us) (r2 : Vals zs ws) : Vals (g_is_setup_0_thing vs zs) (g_is_setup_0_thing us ws) := by
  by_cases h : vs.length = 0 ∧ zs.length = 1
  · match vs, us, zs, ws, r1, r2, h with
    | [], [], [_], [_], .nil, .cons r0 (.nil), _ => exact .cons r0 (.nil)
  · rw [kn_is_setup_0_thing h, kn_is_setup_0_thing (by rw [← r1.length, ← r2.length]; exact h)]
    exact .nil
theorem kn_all_comers_0_setup {α : Type} {vs zs : List α} (h : ¬(vs.length = 0 ∧ zs.length = 1)) : g_all_comers_0_setup vs zs = [] := by
  unfold g_all_comers_0_setup
  split
  · exact absurd ⟨rfl, rfl⟩ h
  · rfl
theorem kr_all_comers_0_setup {vs : List V} {us : List Value} {zs : List V} {ws : List Value} (r1 : Vals vs us) (r2 : Vals zs ws) : Vals (g_all_comers_0_setup vs zs) (g_all_comers_0_setup us ws) := by
  by_cases h : vs.length = 0 ∧ zs.length = 1
  · match vs, us, zs, ws, r1, r2, h with
    | [], [], [_], [_], .nil, .cons r0 (.nil), _ => exact .cons r0 (.nil)
  · rw [kn_all_comers_0_setup h, kn_all_comers_0_setup (by rw [← r1.length, ← r2.length]; exact h)]
    exact .nil
theorem kn_is_seats_0_thing {α : Type} {vs zs : List α} (h : ¬(vs.length = 0 ∧ zs.length = 1)) : g_is_seats_0_thing vs zs = [] := by
  unfold g_is_seats_0_thing
  split
  · exact absurd ⟨rfl, rfl⟩ h
  · rfl
theorem kr_is_seats_0_thing {vs : List V} {us : List Value} {zs : List V} {ws : List Value} (r1 : Vals vs us) (r2 : Vals zs ws) : Vals (g_is_seats_0_thing vs zs) (g_is_seats_0_thing us ws) := by
  by_cases h : vs.length = 0 ∧ zs.length = 1
  · match vs, us, zs, ws, r1, r2, h with
    | [], [], [_], [_], .nil, .cons r0 (.nil), _ => exact .cons r0 (.nil)
  · rw [kn_is_seats_0_thing h, kn_is_seats_0_thing (by rw [← r1.length, ← r2.length]; exact h)]
    exact .nil
theorem all_mk {l : PySem.W.OpenLaw} {w : World} {K : PySem.W.Frag} {h : Heap} {mg : Str → Option Value} {fa f0 f1 f2 f3 f4 f5 f6 f7 f8 f9 f10 f11 f12 f13 f14 f15 f16 f17 f18 f19 f20 f21 f22 f23 f24 f25 f26 f27 : Addr} (X : K.In h) (G : h.Ns mainGlobals mg) (hfa : mg "law" = some (.ref fa))
    {od0 an0 : Option Addr} {sl0 : Array (Option Value)} {oc0 kV0 dc0 pm0 cd0 ct0 : Value}
    (a0 : PySem.W.nsIn K mainGlobals "comers_of" = some (some (.ref f0))) (l0 : K.lookup f0 = some ⟨oc0, od0, .func (PySem.W.fnOf "comers_of" "comers_of" (defArgs s_comers_of) (defBody s_comers_of) (defScope s_comers_of) .none kV0 dc0 pm0 an0 cd0 ct0), sl0⟩) (c0 : PySem.W.codeIn K cd0 "comers_of" = true) (k0 : PySem.W.keepIn K (.ref f0) = true)
    {od1 an1 : Option Addr} {sl1 : Array (Option Value)} {oc1 kV1 dc1 pm1 cd1 ct1 : Value}
    {T1 : Addr} {oT1 : Obj}
    (a1 : PySem.W.nsIn K mainGlobals "is_integer" = some (some (.ref f1))) (l1 : K.lookup f1 = some ⟨oc1, od1, .func (PySem.W.fnOf "is_integer" "is_integer" (defArgs s_is_integer) (defBody s_is_integer) (defScope s_is_integer) (.ref T1) kV1 dc1 pm1 an1 cd1 ct1), sl1⟩) (c1 : PySem.W.codeIn K cd1 "is_integer" = true) (k1 : PySem.W.keepIn K (.ref f1) = true)
    (t1 : K.lookup T1 = some oT1)
    (u1 : oT1.data = .seq ([.none, .none] : List Value).toArray 0)
    {od2 an2 : Option Addr} {sl2 : Array (Option Value)} {oc2 kV2 dc2 pm2 cd2 ct2 : Value}
    (a2 : PySem.W.nsIn K mainGlobals "is_row_of" = some (some (.ref f2))) (l2 : K.lookup f2 = some ⟨oc2, od2, .func (PySem.W.fnOf "is_row_of" "is_row_of" (defArgs s_is_row_of) (defBody s_is_row_of) (defScope s_is_row_of) .none kV2 dc2 pm2 an2 cd2 ct2), sl2⟩) (c2 : PySem.W.codeIn K cd2 "is_row_of" = true) (k2 : PySem.W.keepIn K (.ref f2) = true)
    {od3 an3 : Option Addr} {sl3 : Array (Option Value)} {oc3 kV3 dc3 pm3 cd3 ct3 : Value}
    (a3 : PySem.W.nsIn K mainGlobals "is_choice" = some (some (.ref f3))) (l3 : K.lookup f3 = some ⟨oc3, od3, .func (PySem.W.fnOf "is_choice" "is_choice" (defArgs s_is_choice) (defBody s_is_choice) (defScope s_is_choice) .none kV3 dc3 pm3 an3 cd3 ct3), sl3⟩) (c3 : PySem.W.codeIn K cd3 "is_choice" = true) (k3 : PySem.W.keepIn K (.ref f3) = true)
    {od4 an4 : Option Addr} {sl4 : Array (Option Value)} {oc4 kV4 dc4 pm4 cd4 ct4 : Value}
    (a4 : PySem.W.nsIn K mainGlobals "is_setup" = some (some (.ref f4))) (l4 : K.lookup f4 = some ⟨oc4, od4, .func (PySem.W.fnOf "is_setup" "is_setup" (defArgs s_is_setup) (defBody s_is_setup) (defScope s_is_setup) .none kV4 dc4 pm4 an4 cd4 ct4), sl4⟩) (c4 : PySem.W.codeIn K cd4 "is_setup" = true) (k4 : PySem.W.keepIn K (.ref f4) = true)
    {od5 an5 : Option Addr} {sl5 : Array (Option Value)} {oc5 kV5 dc5 pm5 cd5 ct5 : Value}
    (a5 : PySem.W.nsIn K mainGlobals "need_setup" = some (some (.ref f5))) (l5 : K.lookup f5 = some ⟨oc5, od5, .func (PySem.W.fnOf "need_setup" "need_setup" (defArgs s_need_setup) (defBody s_need_setup) (defScope s_need_setup) .none kV5 dc5 pm5 an5 cd5 ct5), sl5⟩) (c5 : PySem.W.codeIn K cd5 "need_setup" = true) (k5 : PySem.W.keepIn K (.ref f5) = true)
    {od6 an6 : Option Addr} {sl6 : Array (Option Value)} {oc6 kV6 dc6 pm6 cd6 ct6 : Value}
    (a6 : PySem.W.nsIn K mainGlobals "all_comers" = some (some (.ref f6))) (l6 : K.lookup f6 = some ⟨oc6, od6, .func (PySem.W.fnOf "all_comers" "all_comers" (defArgs s_all_comers) (defBody s_all_comers) (defScope s_all_comers) .none kV6 dc6 pm6 an6 cd6 ct6), sl6⟩) (c6 : PySem.W.codeIn K cd6 "all_comers" = true) (k6 : PySem.W.keepIn K (.ref f6) = true)
    {od7 an7 : Option Addr} {sl7 : Array (Option Value)} {oc7 kV7 dc7 pm7 cd7 ct7 : Value}
    (a7 : PySem.W.nsIn K mainGlobals "_law_comers" = some (some (.ref f7))) (l7 : K.lookup f7 = some ⟨oc7, od7, .func (PySem.W.fnOf "_law_comers" "_law_comers" (defArgs s__law_comers) (defBody s__law_comers) (defScope s__law_comers) .none kV7 dc7 pm7 an7 cd7 ct7), sl7⟩) (c7 : PySem.W.codeIn K cd7 "_law_comers" = true) (k7 : PySem.W.keepIn K (.ref f7) = true)
    {od8 an8 : Option Addr} {sl8 : Array (Option Value)} {oc8 kV8 dc8 pm8 cd8 ct8 : Value}
    (a8 : PySem.W.nsIn K mainGlobals "_law_is_number" = some (some (.ref f8))) (l8 : K.lookup f8 = some ⟨oc8, od8, .func (PySem.W.fnOf "_law_is_number" "_law_is_number" (defArgs s__law_is_number) (defBody s__law_is_number) (defScope s__law_is_number) .none kV8 dc8 pm8 an8 cd8 ct8), sl8⟩) (c8 : PySem.W.codeIn K cd8 "_law_is_number" = true) (k8 : PySem.W.keepIn K (.ref f8) = true)
    {od9 an9 : Option Addr} {sl9 : Array (Option Value)} {oc9 kV9 dc9 pm9 cd9 ct9 : Value}
    (a9 : PySem.W.nsIn K mainGlobals "_law_are" = some (some (.ref f9))) (l9 : K.lookup f9 = some ⟨oc9, od9, .func (PySem.W.fnOf "_law_are" "_law_are" (defArgs s__law_are) (defBody s__law_are) (defScope s__law_are) .none kV9 dc9 pm9 an9 cd9 ct9), sl9⟩) (c9 : PySem.W.codeIn K cd9 "_law_are" = true) (k9 : PySem.W.keepIn K (.ref f9) = true)
    {od10 an10 : Option Addr} {sl10 : Array (Option Value)} {oc10 kV10 dc10 pm10 cd10 ct10 : Value}
    (a10 : PySem.W.nsIn K mainGlobals "_law_choice" = some (some (.ref f10))) (l10 : K.lookup f10 = some ⟨oc10, od10, .func (PySem.W.fnOf "_law_choice" "_law_choice" (defArgs s__law_choice) (defBody s__law_choice) (defScope s__law_choice) .none kV10 dc10 pm10 an10 cd10 ct10), sl10⟩) (c10 : PySem.W.codeIn K cd10 "_law_choice" = true) (k10 : PySem.W.keepIn K (.ref f10) = true)
    {od11 an11 : Option Addr} {sl11 : Array (Option Value)} {oc11 kV11 dc11 pm11 cd11 ct11 : Value}
    (a11 : PySem.W.nsIn K mainGlobals "_law_due_setup" = some (some (.ref f11))) (l11 : K.lookup f11 = some ⟨oc11, od11, .func (PySem.W.fnOf "_law_due_setup" "_law_due_setup" (defArgs s__law_due_setup) (defBody s__law_due_setup) (defScope s__law_due_setup) .none kV11 dc11 pm11 an11 cd11 ct11), sl11⟩) (c11 : PySem.W.codeIn K cd11 "_law_due_setup" = true) (k11 : PySem.W.keepIn K (.ref f11) = true)
    {od12 an12 : Option Addr} {sl12 : Array (Option Value)} {oc12 kV12 dc12 pm12 cd12 ct12 : Value}
    (a12 : PySem.W.nsIn K mainGlobals "is_range" = some (some (.ref f12))) (l12 : K.lookup f12 = some ⟨oc12, od12, .func (PySem.W.fnOf "is_range" "is_range" (defArgs s_is_range) (defBody s_is_range) (defScope s_is_range) .none kV12 dc12 pm12 an12 cd12 ct12), sl12⟩) (c12 : PySem.W.codeIn K cd12 "is_range" = true) (k12 : PySem.W.keepIn K (.ref f12) = true)
    {od13 an13 : Option Addr} {sl13 : Array (Option Value)} {oc13 kV13 dc13 pm13 cd13 ct13 : Value}
    (a13 : PySem.W.nsIn K mainGlobals "is_rule_row" = some (some (.ref f13))) (l13 : K.lookup f13 = some ⟨oc13, od13, .func (PySem.W.fnOf "is_rule_row" "is_rule_row" (defArgs s_is_rule_row) (defBody s_is_rule_row) (defScope s_is_rule_row) .none kV13 dc13 pm13 an13 cd13 ct13), sl13⟩) (c13 : PySem.W.codeIn K cd13 "is_rule_row" = true) (k13 : PySem.W.keepIn K (.ref f13) = true)
    {od14 an14 : Option Addr} {sl14 : Array (Option Value)} {oc14 kV14 dc14 pm14 cd14 ct14 : Value}
    (a14 : PySem.W.nsIn K mainGlobals "is_rule_of" = some (some (.ref f14))) (l14 : K.lookup f14 = some ⟨oc14, od14, .func (PySem.W.fnOf "is_rule_of" "is_rule_of" (defArgs s_is_rule_of) (defBody s_is_rule_of) (defScope s_is_rule_of) .none kV14 dc14 pm14 an14 cd14 ct14), sl14⟩) (c14 : PySem.W.codeIn K cd14 "is_rule_of" = true) (k14 : PySem.W.keepIn K (.ref f14) = true)
    {od15 an15 : Option Addr} {sl15 : Array (Option Value)} {oc15 kV15 dc15 pm15 cd15 ct15 : Value}
    (a15 : PySem.W.nsIn K mainGlobals "is_seats" = some (some (.ref f15))) (l15 : K.lookup f15 = some ⟨oc15, od15, .func (PySem.W.fnOf "is_seats" "is_seats" (defArgs s_is_seats) (defBody s_is_seats) (defScope s_is_seats) .none kV15 dc15 pm15 an15 cd15 ct15), sl15⟩) (c15 : PySem.W.codeIn K cd15 "is_seats" = true) (k15 : PySem.W.keepIn K (.ref f15) = true)
    {od16 an16 : Option Addr} {sl16 : Array (Option Value)} {oc16 kV16 dc16 pm16 cd16 ct16 : Value}
    (a16 : PySem.W.nsIn K mainGlobals "_law_due_row" = some (some (.ref f16))) (l16 : K.lookup f16 = some ⟨oc16, od16, .func (PySem.W.fnOf "_law_due_row" "_law_due_row" (defArgs s__law_due_row) (defBody s__law_due_row) (defScope s__law_due_row) .none kV16 dc16 pm16 an16 cd16 ct16), sl16⟩) (c16 : PySem.W.codeIn K cd16 "_law_due_row" = true) (k16 : PySem.W.keepIn K (.ref f16) = true)
    {od17 an17 : Option Addr} {sl17 : Array (Option Value)} {oc17 kV17 dc17 pm17 cd17 ct17 : Value}
    (a17 : PySem.W.nsIn K mainGlobals "_law_due_seats" = some (some (.ref f17))) (l17 : K.lookup f17 = some ⟨oc17, od17, .func (PySem.W.fnOf "_law_due_seats" "_law_due_seats" (defArgs s__law_due_seats) (defBody s__law_due_seats) (defScope s__law_due_seats) .none kV17 dc17 pm17 an17 cd17 ct17), sl17⟩) (c17 : PySem.W.codeIn K cd17 "_law_due_seats" = true) (k17 : PySem.W.keepIn K (.ref f17) = true)
    {od18 an18 : Option Addr} {sl18 : Array (Option Value)} {oc18 kV18 dc18 pm18 cd18 ct18 : Value}
    (a18 : PySem.W.nsIn K mainGlobals "_law_says" = some (some (.ref f18))) (l18 : K.lookup f18 = some ⟨oc18, od18, .func (PySem.W.fnOf "_law_says" "_law_says" (defArgs s__law_says) (defBody s__law_says) (defScope s__law_says) .none kV18 dc18 pm18 an18 cd18 ct18), sl18⟩) (c18 : PySem.W.codeIn K cd18 "_law_says" = true) (k18 : PySem.W.keepIn K (.ref f18) = true)
    {od19 an19 : Option Addr} {sl19 : Array (Option Value)} {oc19 kV19 dc19 pm19 cd19 ct19 : Value}
    (a19 : PySem.W.nsIn K mainGlobals "_law_draw" = some (some (.ref f19))) (l19 : K.lookup f19 = some ⟨oc19, od19, .func (PySem.W.fnOf "_law_draw" "_law_draw" (defArgs s__law_draw) (defBody s__law_draw) (defScope s__law_draw) .none kV19 dc19 pm19 an19 cd19 ct19), sl19⟩) (c19 : PySem.W.codeIn K cd19 "_law_draw" = true) (k19 : PySem.W.keepIn K (.ref f19) = true)
    {od20 an20 : Option Addr} {sl20 : Array (Option Value)} {oc20 kV20 dc20 pm20 cd20 ct20 : Value}
    (a20 : PySem.W.nsIn K mainGlobals "_law_odd" = some (some (.ref f20))) (l20 : K.lookup f20 = some ⟨oc20, od20, .func (PySem.W.fnOf "_law_odd" "_law_odd" (defArgs s__law_odd) (defBody s__law_odd) (defScope s__law_odd) .none kV20 dc20 pm20 an20 cd20 ct20), sl20⟩) (c20 : PySem.W.codeIn K cd20 "_law_odd" = true) (k20 : PySem.W.keepIn K (.ref f20) = true)
    {od21 an21 : Option Addr} {sl21 : Array (Option Value)} {oc21 kV21 dc21 pm21 cd21 ct21 : Value}
    (a21 : PySem.W.nsIn K mainGlobals "_law_bent" = some (some (.ref f21))) (l21 : K.lookup f21 = some ⟨oc21, od21, .func (PySem.W.fnOf "_law_bent" "_law_bent" (defArgs s__law_bent) (defBody s__law_bent) (defScope s__law_bent) .none kV21 dc21 pm21 an21 cd21 ct21), sl21⟩) (c21 : PySem.W.codeIn K cd21 "_law_bent" = true) (k21 : PySem.W.keepIn K (.ref f21) = true)
    {od22 an22 : Option Addr} {sl22 : Array (Option Value)} {oc22 kV22 dc22 pm22 cd22 ct22 : Value}
    (a22 : PySem.W.nsIn K mainGlobals "_law_setup" = some (some (.ref f22))) (l22 : K.lookup f22 = some ⟨oc22, od22, .func (PySem.W.fnOf "_law_setup" "_law_setup" (defArgs s__law_setup) (defBody s__law_setup) (defScope s__law_setup) .none kV22 dc22 pm22 an22 cd22 ct22), sl22⟩) (c22 : PySem.W.codeIn K cd22 "_law_setup" = true) (k22 : PySem.W.keepIn K (.ref f22) = true)
    {od23 an23 : Option Addr} {sl23 : Array (Option Value)} {oc23 kV23 dc23 pm23 cd23 ct23 : Value}
    (a23 : PySem.W.nsIn K mainGlobals "_law_range" = some (some (.ref f23))) (l23 : K.lookup f23 = some ⟨oc23, od23, .func (PySem.W.fnOf "_law_range" "_law_range" (defArgs s__law_range) (defBody s__law_range) (defScope s__law_range) .none kV23 dc23 pm23 an23 cd23 ct23), sl23⟩) (c23 : PySem.W.codeIn K cd23 "_law_range" = true) (k23 : PySem.W.keepIn K (.ref f23) = true)
    {od24 an24 : Option Addr} {sl24 : Array (Option Value)} {oc24 kV24 dc24 pm24 cd24 ct24 : Value}
    (a24 : PySem.W.nsIn K mainGlobals "_law_seats" = some (some (.ref f24))) (l24 : K.lookup f24 = some ⟨oc24, od24, .func (PySem.W.fnOf "_law_seats" "_law_seats" (defArgs s__law_seats) (defBody s__law_seats) (defScope s__law_seats) .none kV24 dc24 pm24 an24 cd24 ct24), sl24⟩) (c24 : PySem.W.codeIn K cd24 "_law_seats" = true) (k24 : PySem.W.keepIn K (.ref f24) = true)
    {od25 an25 : Option Addr} {sl25 : Array (Option Value)} {oc25 kV25 dc25 pm25 cd25 ct25 : Value}
    (a25 : PySem.W.nsIn K mainGlobals "_law_right" = some (some (.ref f25))) (l25 : K.lookup f25 = some ⟨oc25, od25, .func (PySem.W.fnOf "_law_right" "_law_right" (defArgs s__law_right) (defBody s__law_right) (defScope s__law_right) .none kV25 dc25 pm25 an25 cd25 ct25), sl25⟩) (c25 : PySem.W.codeIn K cd25 "_law_right" = true) (k25 : PySem.W.keepIn K (.ref f25) = true)
    {od26 an26 : Option Addr} {sl26 : Array (Option Value)} {oc26 kV26 dc26 pm26 cd26 ct26 : Value}
    (a26 : PySem.W.nsIn K mainGlobals "_law_deck" = some (some (.ref f26))) (l26 : K.lookup f26 = some ⟨oc26, od26, .func (PySem.W.fnOf "_law_deck" "_law_deck" (defArgs s__law_deck) (defBody s__law_deck) (defScope s__law_deck) .none kV26 dc26 pm26 an26 cd26 ct26), sl26⟩) (c26 : PySem.W.codeIn K cd26 "_law_deck" = true) (k26 : PySem.W.keepIn K (.ref f26) = true)
    {od27 an27 : Option Addr} {sl27 : Array (Option Value)} {oc27 kV27 dc27 pm27 cd27 ct27 : Value}
    (a27 : PySem.W.nsIn K mainGlobals "law" = some (some (.ref f27))) (l27 : K.lookup f27 = some ⟨oc27, od27, .func (PySem.W.fnOf "law" "law" (defArgs s_law) (defBody s_law) (defScope s_law) .none kV27 dc27 pm27 an27 cd27 ct27), sl27⟩) (c27 : PySem.W.codeIn K cd27 "law" = true) (k27 : PySem.W.keepIn K (.ref f27) = true)
    (z0 : PySem.W.nsIn K mainGlobals "abs" = some none)
    (z1 : PySem.W.nsIn K mainGlobals "all" = some none)
    (z2 : PySem.W.nsIn K mainGlobals "bool" = some none)
    (z3 : PySem.W.nsIn K mainGlobals "int" = some none)
    (z4 : PySem.W.nsIn K mainGlobals "isinstance" = some none)
    (z5 : PySem.W.nsIn K mainGlobals "len" = some none)
    (z6 : PySem.W.nsIn K mainGlobals "list" = some none)
    (z7 : PySem.W.nsIn K mainGlobals "max" = some none)
    (z8 : PySem.W.nsIn K mainGlobals "min" = some none)
    (z9 : PySem.W.nsIn K mainGlobals "range" = some none)
    (z10 : PySem.W.nsIn K mainGlobals "repr" = some none)
    (z11 : PySem.W.nsIn K mainGlobals "set" = some none)
    (z12 : PySem.W.nsIn K mainGlobals "sorted" = some none)
    (z13 : PySem.W.nsIn K mainGlobals "str" = some none)
    (z14 : PySem.W.nsIn K mainGlobals "tuple" = some none)
    (z15 : PySem.W.nsIn K mainGlobals "zip" = some none)
    {cA0 : Addr} {cO0 : Obj} {cn0 : Nat}
    {ctk1 : Tok}
    {ctk2 : Tok}
    (con0 : PySem.W.nsIn K mainGlobals "ANY" = some (some (.ref cA0)))
    (xl0 : K.lookup cA0 = some cO0) (xc0 : cO0.cls = .type "tuple") (xd0 : cO0.data = .seq ([.int (0) ctk1, .int (9) ctk2] : List Value).toArray cn0)
    {ctk3 : Tok}
    (con1 : PySem.W.nsIn K mainGlobals "MOST_LIFE" = some (some (.int (3) ctk3)))
    {ctk4 : Tok}
    (con2 : PySem.W.nsIn K mainGlobals "MOST_MOOD" = some (some (.int (2) ctk4)))
    {ctk5 : Tok}
    (con3 : PySem.W.nsIn K mainGlobals "MOST_PORTIONS" = some (some (.int (4) ctk5)))
    {ctk6 : Tok}
    (con4 : PySem.W.nsIn K mainGlobals "MOST_PRICE" = some (some (.int (5) ctk6)))
    {ctk7 : Tok}
    (con5 : PySem.W.nsIn K mainGlobals "MOST_RULE" = some (some (.int (6) ctk7)))
    {ctk8 : Tok}
    (con6 : PySem.W.nsIn K mainGlobals "MOST_SEATS" = some (some (.int (4) ctk8)))
    {cA9 : Addr} {cO9 : Obj} {cn9 : Nat}
    {ctk10 : Tok}
    {ctk11 : Tok}
    {ctk12 : Tok}
    (con7 : PySem.W.nsIn K mainGlobals "SEAT_DEEDS" = some (some (.ref cA9)))
    (xl9 : K.lookup cA9 = some cO9) (xc9 : cO9.cls = .type "tuple") (xd9 : cO9.data = .seq ([.str "group" ctk10, .str "single" ctk11, .str "go" ctk12] : List Value).toArray cn9)
    : ∃ fd : FuncData, (∀ (s : Shared) (v : Value), BindsTo s fd ⟨[v], []⟩ [("_law_script", v)]) ∧ ∀ base : Heap, K.In base → base.Ns mainGlobals mg → FnG l.prog w K mg base 9 fa fd ["_law_script"] (spV ⟨K, w⟩ .rest F_law) := by
  have e := hfa.symm.trans (PySem.W.mg_of X G a27)
  cases e
  have T : Txt K w mg := { m_abs := PySem.W.mg_none_of X G z0, m_all := PySem.W.mg_none_of X G z1, m_bool := PySem.W.mg_none_of X G z2, m_int := PySem.W.mg_none_of X G z3, m_isinstance := PySem.W.mg_none_of X G z4, m_len := PySem.W.mg_none_of X G z5, m_list := PySem.W.mg_none_of X G z6, m_max := PySem.W.mg_none_of X G z7, m_min := PySem.W.mg_none_of X G z8, m_range := PySem.W.mg_none_of X G z9, m_repr := PySem.W.mg_none_of X G z10, m_set := PySem.W.mg_none_of X G z11, m_sorted := PySem.W.mg_none_of X G z12, m_str := PySem.W.mg_none_of X G z13, m_tuple := PySem.W.mg_none_of X G z14, m_zip := PySem.W.mg_none_of X G z15, g_ANY := ⟨_, (V.ref cA0), PySem.W.mg_of X G con0, rfl, fun _ => (.tup (sqT_const xl0 xc0 xd0 (.cons (show RelV (V.int (0)) _ from ⟨_, rfl⟩) (.cons (show RelV (V.int (9)) _ from ⟨_, rfl⟩) (.nil)))) (.cons (.int _) (.cons (.int _) (.nil))))⟩, g_MOST_LIFE := ⟨_, (V.int (3)), PySem.W.mg_of X G con1, ⟨_, rfl⟩, fun _ => (.int _)⟩, g_MOST_MOOD := ⟨_, (V.int (2)), PySem.W.mg_of X G con2, ⟨_, rfl⟩, fun _ => (.int _)⟩, g_MOST_PORTIONS := ⟨_, (V.int (4)), PySem.W.mg_of X G con3, ⟨_, rfl⟩, fun _ => (.int _)⟩, g_MOST_PRICE := ⟨_, (V.int (5)), PySem.W.mg_of X G con4, ⟨_, rfl⟩, fun _ => (.int _)⟩, g_MOST_RULE := ⟨_, (V.int (6)), PySem.W.mg_of X G con5, ⟨_, rfl⟩, fun _ => (.int _)⟩, g_MOST_SEATS := ⟨_, (V.int (4)), PySem.W.mg_of X G con6, ⟨_, rfl⟩, fun _ => (.int _)⟩, g_SEAT_DEEDS := ⟨_, (V.ref cA9), PySem.W.mg_of X G con7, rfl, fun _ => (.tup (sqT_const xl9 xc9 xd9 (.cons (show RelV (V.str "group") _ from ⟨_, rfl⟩) (.cons (show RelV (V.str "single") _ from ⟨_, rfl⟩) (.cons (show RelV (V.str "go") _ from ⟨_, rfl⟩) (.nil))))) (.cons (.str _) (.cons (.str _) (.cons (.str _) (.nil)))))⟩ }
  have G0 := fun_mk (st := s_comers_of) l0 c0 k0
  have F0 := funD_of G0
  have b0 := G0.binds (ps := ["setup"]) fun _ _ _ _ _ _ us hl => match us, hl with | [_], _ => rfl
  have F1 : FunD K "is_integer" "is_integer" (defArgs s_is_integer) (defBody s_is_integer) (defScope s_is_integer) [V.non, V.non] [] f1 (PySem.W.fnOf "is_integer" "is_integer" (defArgs s_is_integer) (defBody s_is_integer) (defScope s_is_integer) (.ref T1) kV1 dc1 pm1 an1 cd1 ct1) := ⟨⟨_, _, _, _, _, _, _, _, _, _, rfl, l1, c1, .inr ⟨(by intro z; cases z), T1, _, _, 0, rfl, t1, u1, .cons rfl (.cons rfl (.nil))⟩, .inl rfl⟩, k1⟩
  obtain ⟨ds1_3, hd1_3, b1_3⟩ := F1.binds1 (ps := ["thing", "low", "high"]) 3 2 (by intro z; cases z) rfl (fun T kV doc pm an cdv ct us its hu hi => match us, its, hu, hi with | [_, _, _], [_, _], _, _ => ⟨_, rfl, rfl⟩)
  have G2 := fun_mk (st := s_is_row_of) l2 c2 k2
  have F2 := funD_of G2
  have b2 := G2.binds (ps := ["thing", "lows", "highs"]) fun _ _ _ _ _ _ us hl => match us, hl with | [_, _, _], _ => rfl
  have G3 := fun_mk (st := s_is_choice) l3 c3 k3
  have F3 := funD_of G3
  have b3 := G3.binds (ps := ["thing", "most"]) fun _ _ _ _ _ _ us hl => match us, hl with | [_, _], _ => rfl
  have G4 := fun_mk (st := s_is_setup) l4 c4 k4
  have F4 := funD_of G4
  have b4 := G4.binds (ps := ["thing"]) fun _ _ _ _ _ _ us hl => match us, hl with | [_], _ => rfl
  have G5 := fun_mk (st := s_need_setup) l5 c5 k5
  have F5 := funD_of G5
  have b5 := G5.binds (ps := ["setup"]) fun _ _ _ _ _ _ us hl => match us, hl with | [_], _ => rfl
  have G6 := fun_mk (st := s_all_comers) l6 c6 k6
  have F6 := funD_of G6
  have b6 := G6.binds (ps := ["setup"]) fun _ _ _ _ _ _ us hl => match us, hl with | [_], _ => rfl
  have G7 := fun_mk (st := s__law_comers) l7 c7 k7
  have F7 := funD_of G7
  have b7 := G7.binds (ps := ["_law_shop"]) fun _ _ _ _ _ _ us hl => match us, hl with | [_], _ => rfl
  have G8 := fun_mk (st := s__law_is_number) l8 c8 k8
  have F8 := funD_of G8
  have b8 := G8.binds (ps := ["_law_item", "_law_low", "_law_high"]) fun _ _ _ _ _ _ us hl => match us, hl with | [_, _, _], _ => rfl
  have G9 := fun_mk (st := s__law_are) l9 c9 k9
  have F9 := funD_of G9
  have b9 := G9.binds (ps := ["_law_item", "_law_lows", "_law_highs"]) fun _ _ _ _ _ _ us hl => match us, hl with | [_, _, _], _ => rfl
  have G10 := fun_mk (st := s__law_choice) l10 c10 k10
  have F10 := funD_of G10
  have b10 := G10.binds (ps := ["_law_item", "_law_most"]) fun _ _ _ _ _ _ us hl => match us, hl with | [_, _], _ => rfl
  have G11 := fun_mk (st := s__law_due_setup) l11 c11 k11
  have F11 := funD_of G11
  have b11 := G11.binds (ps := ["_law_item"]) fun _ _ _ _ _ _ us hl => match us, hl with | [_], _ => rfl
  have G12 := fun_mk (st := s_is_range) l12 c12 k12
  have F12 := funD_of G12
  have b12 := G12.binds (ps := ["thing"]) fun _ _ _ _ _ _ us hl => match us, hl with | [_], _ => rfl
  have G13 := fun_mk (st := s_is_rule_row) l13 c13 k13
  have F13 := funD_of G13
  have b13 := G13.binds (ps := ["thing", "deeds"]) fun _ _ _ _ _ _ us hl => match us, hl with | [_, _], _ => rfl
  have G14 := fun_mk (st := s_is_rule_of) l14 c14 k14
  have F14 := funD_of G14
  have b14 := G14.binds (ps := ["thing", "deeds"]) fun _ _ _ _ _ _ us hl => match us, hl with | [_, _], _ => rfl
  have G15 := fun_mk (st := s_is_seats) l15 c15 k15
  have F15 := funD_of G15
  have b15 := G15.binds (ps := ["thing"]) fun _ _ _ _ _ _ us hl => match us, hl with | [_], _ => rfl
  have G16 := fun_mk (st := s__law_due_row) l16 c16 k16
  have F16 := funD_of G16
  have b16 := G16.binds (ps := ["_law_item"]) fun _ _ _ _ _ _ us hl => match us, hl with | [_], _ => rfl
  have G17 := fun_mk (st := s__law_due_seats) l17 c17 k17
  have F17 := funD_of G17
  have b17 := G17.binds (ps := ["_law_item"]) fun _ _ _ _ _ _ us hl => match us, hl with | [_], _ => rfl
  have G18 := fun_mk (st := s__law_says) l18 c18 k18
  have F18 := funD_of G18
  have b18 := G18.binds (ps := ["_law_found", "_law_due"]) fun _ _ _ _ _ _ us hl => match us, hl with | [_, _], _ => rfl
  have G19 := fun_mk (st := s__law_draw) l19 c19 k19
  have F19 := funD_of G19
  have b19 := G19.binds (ps := ["_law_deck_here", "_law_many"]) fun _ _ _ _ _ _ us hl => match us, hl with | [_, _], _ => rfl
  have G20 := fun_mk (st := s__law_odd) l20 c20 k20
  have F20 := funD_of G20
  have b20 := G20.binds (ps := ["_law_deck_here"]) fun _ _ _ _ _ _ us hl => match us, hl with | [_], _ => rfl
  have G21 := fun_mk (st := s__law_bent) l21 c21 k21
  have F21 := funD_of G21
  have b21 := G21.binds (ps := ["_law_deck_here", "_law_item"]) fun _ _ _ _ _ _ us hl => match us, hl with | [_, _], _ => rfl
  have G22 := fun_mk (st := s__law_setup) l22 c22 k22
  have F22 := funD_of G22
  have b22 := G22.binds (ps := ["_law_deck_here", "_law_small"]) fun _ _ _ _ _ _ us hl => match us, hl with | [_, _], _ => rfl
  have G23 := fun_mk (st := s__law_range) l23 c23 k23
  have F23 := funD_of G23
  have b23 := G23.binds (ps := ["_law_deck_here", "_law_most"]) fun _ _ _ _ _ _ us hl => match us, hl with | [_, _], _ => rfl
  have G24 := fun_mk (st := s__law_seats) l24 c24 k24
  have F24 := funD_of G24
  have b24 := G24.binds (ps := ["_law_deck_here", "_law_moods", "_law_deaf"]) fun _ _ _ _ _ _ us hl => match us, hl with | [_, _, _], _ => rfl
  have G25 := fun_mk (st := s__law_right) l25 c25 k25
  have F25 := funD_of G25
  have b25 := G25.binds (ps := ["_law_deck_here"]) fun _ _ _ _ _ _ us hl => match us, hl with | [_], _ => rfl
  have G26 := fun_mk (st := s__law_deck) l26 c26 k26
  have F26 := funD_of G26
  have b26 := G26.binds (ps := ["_law_script", "_law_at"]) fun _ _ _ _ _ _ us hl => match us, hl with | [_, _], _ => rfl
  have G27 := fun_mk (st := s_law) l27 c27 k27
  have F27 := funD_of G27
  have b27 := G27.binds (ps := ["_law_script"]) fun _ _ _ _ _ _ us hl => match us, hl with | [_], _ => rfl
  refine ⟨PySem.W.fnOf "law" "law" (defArgs s_law) (defBody s_law) (defScope s_law) .none kV27 dc27 pm27 an27 cd27 ct27, fun s v => .of_eq rfl, fun base _ _ => ?_⟩
  have o_comers_of := ok_comers_of (P := l.prog) (w := w) (base := base) F0 T 
  have c_comers_of : CallOk l.prog w K mg base 1 "comers_of" 1 [] (spV ⟨K, w⟩ .fresh F_comers_of) := callOk_pos o_comers_of (PySem.W.mg_of X G a0) k0 b0 .nil fun vs H Q _ h => by first | exact h | (rw [List.append_nil]; exact h) | (show spV _ _ _ (vs ++ []) _ _ _; rw [List.append_nil]; exact h) | (show spP _ _ (vs ++ []) _ _ _; rw [List.append_nil]; exact h)
  have o_is_integer := ok_is_integer (P := l.prog) (w := w) (base := base) F1 T 
  have c_is_integer : CallOk l.prog w K mg base 1 "is_integer" 3 [] (spV ⟨K, w⟩ .rest F_is_integer) := callOk_pos o_is_integer (PySem.W.mg_of X G a1) k1 b1_3 hd1_3 fun vs H Q _ h => by first | exact h | (rw [List.append_nil]; exact h) | (show spV _ _ _ (vs ++ []) _ _ _; rw [List.append_nil]; exact h) | (show spP _ _ (vs ++ []) _ _ _; rw [List.append_nil]; exact h)
  have o_is_row_of := ok_is_row_of (P := l.prog) (w := w) (base := base) F2 T c_is_integer
  have c_is_row_of : CallOk l.prog w K mg base 2 "is_row_of" 3 [] (spV ⟨K, w⟩ .rest F_is_row_of) := callOk_pos o_is_row_of (PySem.W.mg_of X G a2) k2 b2 .nil fun vs H Q _ h => by first | exact h | (rw [List.append_nil]; exact h) | (show spV _ _ _ (vs ++ []) _ _ _; rw [List.append_nil]; exact h) | (show spP _ _ (vs ++ []) _ _ _; rw [List.append_nil]; exact h)
  have o_is_choice := ok_is_choice (P := l.prog) (w := w) (base := base) F3 T c_is_integer
  have c_is_choice : CallOk l.prog w K mg base 2 "is_choice" 2 [] (spV ⟨K, w⟩ .rest F_is_choice) := callOk_pos o_is_choice (PySem.W.mg_of X G a3) k3 b3 .nil fun vs H Q _ h => by first | exact h | (rw [List.append_nil]; exact h) | (show spV _ _ _ (vs ++ []) _ _ _; rw [List.append_nil]; exact h) | (show spP _ _ (vs ++ []) _ _ _; rw [List.append_nil]; exact h)
  have o_is_setup := ok_is_setup (P := l.prog) (w := w) (base := base) F4 T c_is_row_of c_is_choice c_is_integer
  have c_is_setup_0_thing : CallOk l.prog w K mg base 3 "is_setup" 0 ["thing"] (spV ⟨K, w⟩ .rest F_is_setup_0_thing) := callOk_kw (g := g_is_setup_0_thing) (gV := g_is_setup_0_thing) o_is_setup (PySem.W.mg_of X G a4) k4 ⟨fun s us ws _ hu hw => match us, ws, hu, hw with | [], [_], _, _ => .of_eq rfl, kr_is_setup_0_thing⟩ re_is_setup_0_thing
  have c_is_setup : CallOk l.prog w K mg base 3 "is_setup" 1 [] (spV ⟨K, w⟩ .rest F_is_setup) := callOk_pos o_is_setup (PySem.W.mg_of X G a4) k4 b4 .nil fun vs H Q _ h => by first | exact h | (rw [List.append_nil]; exact h) | (show spV _ _ _ (vs ++ []) _ _ _; rw [List.append_nil]; exact h) | (show spP _ _ (vs ++ []) _ _ _; rw [List.append_nil]; exact h)
  have o_need_setup := ok_need_setup (P := l.prog) (w := w) (base := base) F5 T c_is_setup
  have c_need_setup : CallOk l.prog w K mg base 4 "need_setup" 1 [] (spV ⟨K, w⟩ .rest F_need_setup) := callOk_pos o_need_setup (PySem.W.mg_of X G a5) k5 b5 .nil fun vs H Q _ h => by first | exact h | (rw [List.append_nil]; exact h) | (show spV _ _ _ (vs ++ []) _ _ _; rw [List.append_nil]; exact h) | (show spP _ _ (vs ++ []) _ _ _; rw [List.append_nil]; exact h)
  have o_all_comers := ok_all_comers (P := l.prog) (w := w) (base := base) F6 T c_comers_of c_need_setup
  have c_all_comers_0_setup : CallOk l.prog w K mg base 5 "all_comers" 0 ["setup"] (spV ⟨K, w⟩ .fresh F_all_comers_0_setup) := callOk_kw (g := g_all_comers_0_setup) (gV := g_all_comers_0_setup) o_all_comers (PySem.W.mg_of X G a6) k6 ⟨fun s us ws _ hu hw => match us, ws, hu, hw with | [], [_], _, _ => .of_eq rfl, kr_all_comers_0_setup⟩ re_all_comers_0_setup
  have c_all_comers : CallOk l.prog w K mg base 5 "all_comers" 1 [] (spV ⟨K, w⟩ .fresh F_all_comers) := callOk_pos o_all_comers (PySem.W.mg_of X G a6) k6 b6 .nil fun vs H Q _ h => by first | exact h | (rw [List.append_nil]; exact h) | (show spV _ _ _ (vs ++ []) _ _ _; rw [List.append_nil]; exact h) | (show spP _ _ (vs ++ []) _ _ _; rw [List.append_nil]; exact h)
  have o__law_comers := ok__law_comers (P := l.prog) (w := w) (base := base) F7 T 
  have c__law_comers : CallOk l.prog w K mg base 1 "_law_comers" 1 [] (spV ⟨K, w⟩ .rest F__law_comers) := callOk_pos o__law_comers (PySem.W.mg_of X G a7) k7 b7 .nil fun vs H Q _ h => by first | exact h | (rw [List.append_nil]; exact h) | (show spV _ _ _ (vs ++ []) _ _ _; rw [List.append_nil]; exact h) | (show spP _ _ (vs ++ []) _ _ _; rw [List.append_nil]; exact h)
  have o__law_is_number := ok__law_is_number (P := l.prog) (w := w) (base := base) F8 T 
  have c__law_is_number : CallOk l.prog w K mg base 1 "_law_is_number" 3 [] (spV ⟨K, w⟩ .rest F__law_is_number) := callOk_pos o__law_is_number (PySem.W.mg_of X G a8) k8 b8 .nil fun vs H Q _ h => by first | exact h | (rw [List.append_nil]; exact h) | (show spV _ _ _ (vs ++ []) _ _ _; rw [List.append_nil]; exact h) | (show spP _ _ (vs ++ []) _ _ _; rw [List.append_nil]; exact h)
  have o__law_are := ok__law_are (P := l.prog) (w := w) (base := base) F9 T c__law_is_number
  have c__law_are : CallOk l.prog w K mg base 2 "_law_are" 3 [] (spV ⟨K, w⟩ .rest F__law_are) := callOk_pos o__law_are (PySem.W.mg_of X G a9) k9 b9 .nil fun vs H Q _ h => by first | exact h | (rw [List.append_nil]; exact h) | (show spV _ _ _ (vs ++ []) _ _ _; rw [List.append_nil]; exact h) | (show spP _ _ (vs ++ []) _ _ _; rw [List.append_nil]; exact h)
  have o__law_choice := ok__law_choice (P := l.prog) (w := w) (base := base) F10 T c__law_are
  have c__law_choice : CallOk l.prog w K mg base 3 "_law_choice" 2 [] (spV ⟨K, w⟩ .rest F__law_choice) := callOk_pos o__law_choice (PySem.W.mg_of X G a10) k10 b10 .nil fun vs H Q _ h => by first | exact h | (rw [List.append_nil]; exact h) | (show spV _ _ _ (vs ++ []) _ _ _; rw [List.append_nil]; exact h) | (show spP _ _ (vs ++ []) _ _ _; rw [List.append_nil]; exact h)
  have o__law_due_setup := ok__law_due_setup (P := l.prog) (w := w) (base := base) F11 T c__law_are c__law_choice c__law_is_number
  have c__law_due_setup : CallOk l.prog w K mg base 4 "_law_due_setup" 1 [] (spV ⟨K, w⟩ .rest F__law_due_setup) := callOk_pos o__law_due_setup (PySem.W.mg_of X G a11) k11 b11 .nil fun vs H Q _ h => by first | exact h | (rw [List.append_nil]; exact h) | (show spV _ _ _ (vs ++ []) _ _ _; rw [List.append_nil]; exact h) | (show spP _ _ (vs ++ []) _ _ _; rw [List.append_nil]; exact h)
  have o_is_range := ok_is_range (P := l.prog) (w := w) (base := base) F12 T c_is_row_of
  have c_is_range : CallOk l.prog w K mg base 3 "is_range" 1 [] (spV ⟨K, w⟩ .rest F_is_range) := callOk_pos o_is_range (PySem.W.mg_of X G a12) k12 b12 .nil fun vs H Q _ h => by first | exact h | (rw [List.append_nil]; exact h) | (show spV _ _ _ (vs ++ []) _ _ _; rw [List.append_nil]; exact h) | (show spP _ _ (vs ++ []) _ _ _; rw [List.append_nil]; exact h)
  have o_is_rule_row := ok_is_rule_row (P := l.prog) (w := w) (base := base) F13 T c_is_range c_is_integer
  have c_is_rule_row : CallOk l.prog w K mg base 4 "is_rule_row" 2 [] (spV ⟨K, w⟩ .rest F_is_rule_row) := callOk_pos o_is_rule_row (PySem.W.mg_of X G a13) k13 b13 .nil fun vs H Q _ h => by first | exact h | (rw [List.append_nil]; exact h) | (show spV _ _ _ (vs ++ []) _ _ _; rw [List.append_nil]; exact h) | (show spP _ _ (vs ++ []) _ _ _; rw [List.append_nil]; exact h)
  have o_is_rule_of := ok_is_rule_of (P := l.prog) (w := w) (base := base) F14 T c_is_rule_row
  have c_is_rule_of : CallOk l.prog w K mg base 5 "is_rule_of" 2 [] (spV ⟨K, w⟩ .rest F_is_rule_of) := callOk_pos o_is_rule_of (PySem.W.mg_of X G a14) k14 b14 .nil fun vs H Q _ h => by first | exact h | (rw [List.append_nil]; exact h) | (show spV _ _ _ (vs ++ []) _ _ _; rw [List.append_nil]; exact h) | (show spP _ _ (vs ++ []) _ _ _; rw [List.append_nil]; exact h)
  have o_is_seats := ok_is_seats (P := l.prog) (w := w) (base := base) F15 T c_is_rule_of
  have c_is_seats_0_thing : CallOk l.prog w K mg base 6 "is_seats" 0 ["thing"] (spV ⟨K, w⟩ .rest F_is_seats_0_thing) := callOk_kw (g := g_is_seats_0_thing) (gV := g_is_seats_0_thing) o_is_seats (PySem.W.mg_of X G a15) k15 ⟨fun s us ws _ hu hw => match us, ws, hu, hw with | [], [_], _, _ => .of_eq rfl, kr_is_seats_0_thing⟩ re_is_seats_0_thing
  have c_is_seats : CallOk l.prog w K mg base 6 "is_seats" 1 [] (spV ⟨K, w⟩ .rest F_is_seats) := callOk_pos o_is_seats (PySem.W.mg_of X G a15) k15 b15 .nil fun vs H Q _ h => by first | exact h | (rw [List.append_nil]; exact h) | (show spV _ _ _ (vs ++ []) _ _ _; rw [List.append_nil]; exact h) | (show spP _ _ (vs ++ []) _ _ _; rw [List.append_nil]; exact h)
  have o__law_due_row := ok__law_due_row (P := l.prog) (w := w) (base := base) F16 T c__law_is_number c__law_are
  have c__law_due_row : CallOk l.prog w K mg base 3 "_law_due_row" 1 [] (spV ⟨K, w⟩ .rest F__law_due_row) := callOk_pos o__law_due_row (PySem.W.mg_of X G a16) k16 b16 .nil fun vs H Q _ h => by first | exact h | (rw [List.append_nil]; exact h) | (show spV _ _ _ (vs ++ []) _ _ _; rw [List.append_nil]; exact h) | (show spP _ _ (vs ++ []) _ _ _; rw [List.append_nil]; exact h)
  have o__law_due_seats := ok__law_due_seats (P := l.prog) (w := w) (base := base) F17 T c__law_due_row
  have c__law_due_seats : CallOk l.prog w K mg base 4 "_law_due_seats" 1 [] (spV ⟨K, w⟩ .rest F__law_due_seats) := callOk_pos o__law_due_seats (PySem.W.mg_of X G a17) k17 b17 .nil fun vs H Q _ h => by first | exact h | (rw [List.append_nil]; exact h) | (show spV _ _ _ (vs ++ []) _ _ _; rw [List.append_nil]; exact h) | (show spP _ _ (vs ++ []) _ _ _; rw [List.append_nil]; exact h)
  have o__law_says := ok__law_says (P := l.prog) (w := w) (base := base) F18 T 
  have c__law_says : CallOk l.prog w K mg base 1 "_law_says" 2 [] (spV ⟨K, w⟩ .rest F__law_says) := callOk_pos o__law_says (PySem.W.mg_of X G a18) k18 b18 .nil fun vs H Q _ h => by first | exact h | (rw [List.append_nil]; exact h) | (show spV _ _ _ (vs ++ []) _ _ _; rw [List.append_nil]; exact h) | (show spP _ _ (vs ++ []) _ _ _; rw [List.append_nil]; exact h)
  have o__law_draw := ok__law_draw (P := l.prog) (w := w) (base := base) F19 T 
  have c__law_draw : CallOk l.prog w K mg base 1 "_law_draw" 2 [] (spB ⟨K, w⟩ .rest F__law_draw) := callOk_pos o__law_draw (PySem.W.mg_of X G a19) k19 b19 .nil fun vs H Q _ h => by first | exact h | (rw [List.append_nil]; exact h) | (show spV _ _ _ (vs ++ []) _ _ _; rw [List.append_nil]; exact h) | (show spP _ _ (vs ++ []) _ _ _; rw [List.append_nil]; exact h)
  have o__law_odd := ok__law_odd (P := l.prog) (w := w) (base := base) F20 T c__law_draw
  have c__law_odd : CallOk l.prog w K mg base 2 "_law_odd" 1 [] (spB ⟨K, w⟩ .rest F__law_odd) := callOk_pos o__law_odd (PySem.W.mg_of X G a20) k20 b20 .nil fun vs H Q _ h => by first | exact h | (rw [List.append_nil]; exact h) | (show spV _ _ _ (vs ++ []) _ _ _; rw [List.append_nil]; exact h) | (show spP _ _ (vs ++ []) _ _ _; rw [List.append_nil]; exact h)
  have r__law_bent : ∀ i, CallOk l.prog w K mg base (2 + i) "_law_bent" 2 [] (spB ⟨K, w⟩ .rest (F__law_bent__R i)) := fun i => by
    induction i with
    | zero => exact callOk_none (PySem.W.mg_of X G a21) k21 (fun vs H Q h => spB_none h)
    | succ i ih => exact callOk_pos (ok__law_bent (P := l.prog) (w := w) (base := base) F21 T c__law_draw c__law_odd ih) (PySem.W.mg_of X G a21) k21 b21 .nil fun vs H Q _ h => by first | exact h | (rw [List.append_nil]; exact h) | (show spV _ _ _ (vs ++ []) _ _ _; rw [List.append_nil]; exact h)
  have c__law_bent : CallOk l.prog w K mg base 7 "_law_bent" 2 [] (spB ⟨K, w⟩ .rest F__law_bent) := by
    unfold F__law_bent
    exact r__law_bent 5
  have o__law_setup := ok__law_setup (P := l.prog) (w := w) (base := base) F22 T c__law_draw
  have c__law_setup : CallOk l.prog w K mg base 2 "_law_setup" 2 [] (spB ⟨K, w⟩ .rest F__law_setup) := callOk_pos o__law_setup (PySem.W.mg_of X G a22) k22 b22 .nil fun vs H Q _ h => by first | exact h | (rw [List.append_nil]; exact h) | (show spV _ _ _ (vs ++ []) _ _ _; rw [List.append_nil]; exact h) | (show spP _ _ (vs ++ []) _ _ _; rw [List.append_nil]; exact h)
  have o__law_range := ok__law_range (P := l.prog) (w := w) (base := base) F23 T c__law_draw
  have c__law_range : CallOk l.prog w K mg base 2 "_law_range" 2 [] (spB ⟨K, w⟩ .rest F__law_range) := callOk_pos o__law_range (PySem.W.mg_of X G a23) k23 b23 .nil fun vs H Q _ h => by first | exact h | (rw [List.append_nil]; exact h) | (show spV _ _ _ (vs ++ []) _ _ _; rw [List.append_nil]; exact h) | (show spP _ _ (vs ++ []) _ _ _; rw [List.append_nil]; exact h)
  have o__law_seats := ok__law_seats (P := l.prog) (w := w) (base := base) F24 T c__law_draw c__law_range
  have c__law_seats : CallOk l.prog w K mg base 3 "_law_seats" 3 [] (spB ⟨K, w⟩ .rest F__law_seats) := callOk_pos o__law_seats (PySem.W.mg_of X G a24) k24 b24 .nil fun vs H Q _ h => by first | exact h | (rw [List.append_nil]; exact h) | (show spV _ _ _ (vs ++ []) _ _ _; rw [List.append_nil]; exact h) | (show spP _ _ (vs ++ []) _ _ _; rw [List.append_nil]; exact h)
  have o__law_right := ok__law_right (P := l.prog) (w := w) (base := base) F25 T c_all_comers_0_setup c_all_comers c__law_comers c_is_setup_0_thing c_is_setup c__law_due_setup c_is_seats_0_thing c_is_seats c__law_due_seats c__law_says c__law_bent c__law_setup c__law_seats c__law_draw
  have c__law_right : CallOk l.prog w K mg base 8 "_law_right" 1 [] (spB ⟨K, w⟩ .rest F__law_right) := callOk_pos o__law_right (PySem.W.mg_of X G a25) k25 b25 .nil fun vs H Q _ h => by first | exact h | (rw [List.append_nil]; exact h) | (show spV _ _ _ (vs ++ []) _ _ _; rw [List.append_nil]; exact h) | (show spP _ _ (vs ++ []) _ _ _; rw [List.append_nil]; exact h)
  have o__law_deck := ok__law_deck (P := l.prog) (w := w) (base := base) F26 T 
  have c__law_deck : CallOk l.prog w K mg base 1 "_law_deck" 2 [] (spV ⟨K, w⟩ .fresh F__law_deck) := callOk_pos o__law_deck (PySem.W.mg_of X G a26) k26 b26 .nil fun vs H Q _ h => by first | exact h | (rw [List.append_nil]; exact h) | (show spV _ _ _ (vs ++ []) _ _ _; rw [List.append_nil]; exact h) | (show spP _ _ (vs ++ []) _ _ _; rw [List.append_nil]; exact h)
  exact ok_law F27 T c__law_right c__law_deck
end K19

set_option maxHeartbeats 4000000
namespace K19
open PySem PySem.Spec PyProof.Rows L2 Pd Zd
local macro_rules
  | `(tactic| exists $es,*) => `(tactic| ((repeat (first | (refine Wx.st ?_) | (refine W1.st ?_) | ((with_reducible refine Gd.mk ?_ ?_); first | exact rfl | assumption | omega | decide | exact sm_l rfl | exact sm_r rfl | exact sm_lo (by omega) (by omega) | exact sm_ro (by omega) (by omega) | (simp only [List.length_cons, List.length_nil, List.length_map, List.length_append, List.length_range, List.length_replicate, rngL_len, rngD_len]; omega)) | ((with_reducible refine Br.t ?_ ?_); first | exact rfl | assumption | exact decide_eq_true (by omega) | exact nt_of (by omega)) | ((with_reducible refine Br.f ?_ ?_); first | exact rfl | assumption | exact decide_eq_false (by omega) | exact nf_of (by omega)) $[| ((with_reducible apply W.to); ((with_reducible apply $es) <;> first | assumption | omega | exact rfl))]* $[| ((with_reducible apply Wp.to); ((with_reducible apply $es) <;> first | assumption | omega | exact rfl))]* $[| ((with_reducible refine Br.t ?_ ?_); ((with_reducible apply $es) <;> first | assumption | omega | exact rfl))]* $[| ((with_reducible refine Br.f ?_ ?_); ((with_reducible apply $es) <;> first | assumption | omega | exact rfl))]* | ((with_reducible apply W.to); exact rfl) | (with_reducible refine Nxt.nx ?_) | (with_reducible refine Nxt.ct ?_) | (with_reducible refine Nxt.br ?_) | (with_reducible refine Nxt.rt ?_))); (try dsimp only [nset_s, nset_0, putS, frzS, nget_s, nget_0, setAll, wip, rst, nget_D, nmap_c, nmap_n, napp_c, napp_n, nrep_s, nrep_0]); (repeat (first | (refine Wx.st ?_) | (refine W1.st ?_) | ((with_reducible refine Gd.mk ?_ ?_); first | exact rfl | assumption | omega | decide | exact sm_l rfl | exact sm_r rfl | exact sm_lo (by omega) (by omega) | exact sm_ro (by omega) (by omega) | (simp only [List.length_cons, List.length_nil, List.length_map, List.length_append, List.length_range, List.length_replicate, rngL_len, rngD_len]; omega)) | ((with_reducible refine Br.t ?_ ?_); first | exact rfl | assumption | exact decide_eq_true (by omega) | exact nt_of (by omega)) | ((with_reducible refine Br.f ?_ ?_); first | exact rfl | assumption | exact decide_eq_false (by omega) | exact nf_of (by omega)) $[| ((with_reducible apply W.to); ((with_reducible apply $es) <;> first | assumption | omega | exact rfl))]* $[| ((with_reducible apply Wp.to); ((with_reducible apply $es) <;> first | assumption | omega | exact rfl))]* $[| ((with_reducible refine Br.t ?_ ?_); ((with_reducible apply $es) <;> first | assumption | omega | exact rfl))]* $[| ((with_reducible refine Br.f ?_ ?_); ((with_reducible apply $es) <;> first | assumption | omega | exact rfl))]* | ((with_reducible apply W.to); exact rfl) | (with_reducible refine Nxt.nx ?_) | (with_reducible refine Nxt.ct ?_) | (with_reducible refine Nxt.br ?_) | (with_reducible refine Nxt.rt ?_))); (try dsimp only [nset_s, nset_0, putS, frzS, nget_s, nget_0, setAll, wip, rst, nget_D, nmap_c, nmap_n, napp_c, napp_n, nrep_s, nrep_0])))
def Dk (n : Int) (d : D) : Prop := ∃ a b c : Int, d = .lst [.int a, .int b, .int c] ∧ 0 ≤ a ∧ 0 ≤ b ∧ 0 ≤ c ∧ c ≤ n
theorem Dk.mono {n m : Int} {d : D} (h : Dk n d) (hm : n ≤ m) : Dk m d := by
  obtain ⟨a, b, c, e, h1, h2, h3, h4⟩ := h
  exact ⟨a, b, c, e, h1, h2, h3, by omega⟩
theorem m_deck (ns : List Int) (k : Nat) (hk : k ≤ 100) : ∃ d, F__law_deck [.scr ns, .int (k : Nat)] = some d ∧ Dk 100 d := by
  suffices h : W (F__law_deck [.scr ns, .int (k : Nat)]) (Dk 100) from h
  unfold F__law_deck u__law_deck
  have fin : ∀ cell : Int, Dk 100 (.lst [.int (if cell - 10 ^ Int.toNat 18 > 0 then cell - 10 ^ Int.toNat 18 else 0), .int ((if cell < 0 then -cell else cell) * 2 + if decide (cell < 0) = true then 1 else 0), .int (k : Nat)]) := fun cell => by
    refine ⟨_, _, _, rfl, ?_, ?_, by omega, by omega⟩
    · split <;> omega
    · repeat' split
      all_goals omega
  exists rfl
  refine Br.d (fun h => ?_) (fun h => ?_)
  · have hk : k < ns.length := by omega
    have e : atI ns ((k : Nat) : Int) = some ns[k] := atI_nat (List.getElem?_eq_getElem hk)
    exists e
    exact fin _
  · generalize (29 * ((k : Nat) : Int) + 5) = cell
    exists rfl
    exact fin cell
theorem m_draw {n m : Int} {d : D} (h : Dk n d) (hn : n < 1000000000) (h1 : 0 < m) (h2 : m < 1073741824) : ∃ v d', F__law_draw d [.int m] = some (.int v, d') ∧ 0 ≤ v ∧ v < m ∧ Dk (n + 1) d' := by
  obtain ⟨a, b, c, rfl, ha, hb, hc, hcn⟩ := h
  suffices h : Wp (F__law_draw (.lst [.int a, .int b, .int c]) [.int m]) (fun x d' => ∃ v, x = .int v ∧ 0 ≤ v ∧ v < m ∧ Dk (n + 1) d') by
    obtain ⟨x, d', e, v, rfl, h⟩ := h
    exact ⟨v, d', e, h⟩
  unfold F__law_draw u__law_draw
  by_cases h0 : 0 < a
  · exists rfl
    exact ⟨_, rfl, Int.emod_nonneg _ (by omega), Int.emod_lt_of_pos _ h1, _, _, _, rfl, Int.ediv_nonneg ha (by omega), hb, hc, by omega⟩
  · exists rfl
    exact ⟨_, rfl, Int.emod_nonneg _ (by omega), Int.emod_lt_of_pos _ h1, _, _, _, rfl, ha, hb, by omega, by omega⟩
end K19

set_option maxHeartbeats 4000000
namespace K19
open PySem PySem.Spec PyProof.Rows L2 Pd Zd
local macro_rules
  | `(tactic| exists $es,*) => `(tactic| ((repeat (first | (refine Wx.st ?_) | (refine W1.st ?_) | ((with_reducible refine Gd.mk ?_ ?_); first | exact rfl | assumption | omega | decide | exact sm_l rfl | exact sm_r rfl | exact sm_lo (by omega) (by omega) | exact sm_ro (by omega) (by omega) | (simp only [List.length_cons, List.length_nil, List.length_map, List.length_append, List.length_range, List.length_replicate, rngL_len, rngD_len]; omega)) | ((with_reducible refine Br.t ?_ ?_); first | exact rfl | assumption | exact decide_eq_true (by omega) | exact nt_of (by omega)) | ((with_reducible refine Br.f ?_ ?_); first | exact rfl | assumption | exact decide_eq_false (by omega) | exact nf_of (by omega)) $[| ((with_reducible apply W.to); ((with_reducible apply $es) <;> first | assumption | omega | exact rfl))]* $[| ((with_reducible apply Wp.to); ((with_reducible apply $es) <;> first | assumption | omega | exact rfl))]* $[| ((with_reducible refine Br.t ?_ ?_); ((with_reducible apply $es) <;> first | assumption | omega | exact rfl))]* $[| ((with_reducible refine Br.f ?_ ?_); ((with_reducible apply $es) <;> first | assumption | omega | exact rfl))]* | ((with_reducible apply W.to); exact rfl) | (with_reducible refine Nxt.nx ?_) | (with_reducible refine Nxt.ct ?_) | (with_reducible refine Nxt.br ?_) | (with_reducible refine Nxt.rt ?_))); (try dsimp only [nset_s, nset_0, putS, frzS, nget_s, nget_0, setAll, wip, rst, nget_D, nmap_c, nmap_n, napp_c, napp_n, nrep_s, nrep_0]); (repeat (first | (refine Wx.st ?_) | (refine W1.st ?_) | ((with_reducible refine Gd.mk ?_ ?_); first | exact rfl | assumption | omega | decide | exact sm_l rfl | exact sm_r rfl | exact sm_lo (by omega) (by omega) | exact sm_ro (by omega) (by omega) | (simp only [List.length_cons, List.length_nil, List.length_map, List.length_append, List.length_range, List.length_replicate, rngL_len, rngD_len]; omega)) | ((with_reducible refine Br.t ?_ ?_); first | exact rfl | assumption | exact decide_eq_true (by omega) | exact nt_of (by omega)) | ((with_reducible refine Br.f ?_ ?_); first | exact rfl | assumption | exact decide_eq_false (by omega) | exact nf_of (by omega)) $[| ((with_reducible apply W.to); ((with_reducible apply $es) <;> first | assumption | omega | exact rfl))]* $[| ((with_reducible apply Wp.to); ((with_reducible apply $es) <;> first | assumption | omega | exact rfl))]* $[| ((with_reducible refine Br.t ?_ ?_); ((with_reducible apply $es) <;> first | assumption | omega | exact rfl))]* $[| ((with_reducible refine Br.f ?_ ?_); ((with_reducible apply $es) <;> first | assumption | omega | exact rfl))]* | ((with_reducible apply W.to); exact rfl) | (with_reducible refine Nxt.nx ?_) | (with_reducible refine Nxt.ct ?_) | (with_reducible refine Nxt.br ?_) | (with_reducible refine Nxt.rt ?_))); (try dsimp only [nset_s, nset_0, putS, frzS, nget_s, nget_0, setAll, wip, rst, nget_D, nmap_c, nmap_n, napp_c, napp_n, nrep_s, nrep_0])))
theorem at_pick {xs : List D} {v : Int} (P : D → Prop) (hp : ∀ x ∈ xs, P x) (h : 0 ≤ v) (h2 : v < xs.length) : ∃ x, atI xs v = some x ∧ P x := by
  have hv : v.toNat < xs.length := by omega
  exact ⟨xs[v.toNat], atI_of (k := v.toNat) (by omega) (List.getElem?_eq_getElem hv), hp _ (List.getElem_mem hv)⟩
theorem at_int {xs : List Int} {v lo hi : Int} (hp : ∀ x ∈ xs, lo ≤ x ∧ x ≤ hi) (h : 0 ≤ v) (h2 : v < xs.length) : ∃ x, atI (xs.map D.int) v = some (.int x) ∧ lo ≤ x ∧ x ≤ hi := by
  have hv : v.toNat < xs.length := by omega
  exact ⟨xs[v.toNat], atI_of (k := v.toNat) (by omega) (by rw [List.getElem?_map, List.getElem?_eq_getElem hv]; rfl), hp _ (List.getElem_mem hv)⟩
theorem m_setup {n : Int} {d : D} {sm : Int} (h : Dk n d) (hn : n < 100000000) (hs : sm = 0 ∨ sm = 1 ∨ sm = 2) :
    ∃ s d', F__law_setup d [.int sm] = some (suD s, d') ∧ SuOk s ∧ Dk (n + 20) d' := by
  suffices h : Wp (F__law_setup d [.int sm]) (fun x d' => ∃ s, x = suD s ∧ SuOk s ∧ Dk (n + 20) d') by
    obtain ⟨x, d', e, s, rfl, h⟩ := h
    exact ⟨s, d', e, h⟩
  obtain ⟨v0, d0, e0, v01, v02, k0⟩ := m_draw (m := 4) h (by omega) (by omega) (by omega)
  obtain ⟨x0, f0, x01, x02⟩ := at_int (xs := [3, 3, 4, 4]) (v := v0) (lo := 3) (hi := 4) (by decide) v01 v02
  have f0 : atI [D.int 3, .int 3, .int 4, .int 4] v0 = some (.int x0) := f0
  obtain ⟨v1, d1, e1, v11, v12, k1⟩ := m_draw (m := x0) k0 (by omega) (by omega) (by omega)
  obtain ⟨a, d2, e2, a1, a2, k2⟩ := m_draw (m := 1 + v1) k1 (by omega) (by omega) (by omega)
  obtain ⟨b, d3, e3, b1, b2, k3⟩ := m_draw (m := 1 + v1) k2 (by omega) (by omega) (by omega)
  obtain ⟨sz, f1, hsz⟩ := sset2 (a := 1 + a) (b := 1 + b) (m := 1 + v1) (by omega) (by omega)
  obtain ⟨y0, g0, y01, y02⟩ := at_int (xs := [2, 2, 1]) (v := sm) (lo := 1) (hi := 2) (by decide) (by omega) (by show sm < 3; omega)
  have g0 : atI [D.int 2, .int 2, .int 1] sm = some (.int y0) := g0
  obtain ⟨y1, g1, y11, y12⟩ := at_int (xs := [3, 2, 2]) (v := sm) (lo := 2) (hi := 3) (by decide) (by omega) (by show sm < 3; omega)
  have g1 : atI [D.int 3, .int 2, .int 2] sm = some (.int y1) := g1
  obtain ⟨y2, g2, y21, y22⟩ := at_int (xs := [3, 3, 2]) (v := sm) (lo := 2) (hi := 3) (by decide) (by omega) (by show sm < 3; omega)
  have g2 : atI [D.int 3, .int 3, .int 2] sm = some (.int y2) := g2
  obtain ⟨r0, d4, e4, r01, r02, k4⟩ := m_draw (m := y0) k3 (by omega) (by omega) (by omega)
  obtain ⟨r1, d5, e5, r11, r12, k5⟩ := m_draw (m := y1) k4 (by omega) (by omega) (by omega)
  obtain ⟨c0, d6, e6, c01, c02, k6⟩ := m_draw (m := 4) k5 (by omega) (by omega) (by omega)
  obtain ⟨c1, d7, e7, c11, c12, k7⟩ := m_draw (m := y2) k6 (by omega) (by omega) (by omega)
  obtain ⟨q0, d8, e8, q01, q02, k8⟩ := m_draw (m := 4 - sm) k7 (by omega) (by omega) (by omega)
  obtain ⟨q1, d9, e9, q11, q12, k9⟩ := m_draw (m := 4 - sm) k8 (by omega) (by omega) (by omega)
  obtain ⟨ks, f2, hks⟩ := sset2 (a := 1 + q0) (b := 1 + q1) (m := 4) (by omega) (by omega)
  unfold F__law_setup u__law_setup
  exists e0, f0, e1
  exists e2, e3, f1
  exists g0, e4, g1, e5
  exists e6, g2, e7
  exists e8, e9, f2
  refine lc_inv (fun k acc Γ => ∃ (dk : D) (ps : List Int), Γ = [.byr dk, .val (.int sm), .val (.int (1 + v1)), .val (.tup (sz.map D.int)), .val (.tup [.int (1 + r0), .int r1]), .val (.tup [.int (if decide (c0 > 0) = true then 1 else 0), .int c1]), .val (.tup (ks.map D.int)), .no, .no] ∧ acc = ps.map D.int ∧ ps.length = k ∧ (∀ p ∈ ps, 0 ≤ p ∧ p ≤ 5) ∧ Dk (n + 10 + k) dk)
    ⟨d9, [], rfl, rfl, rfl, (fun _ h => by cases h), k9.mono (by omega)⟩ ?_ ?_
  · rintro k x acc Γ hx ⟨dk, ps, rfl, rfl, hps, hp, hd⟩
    obtain ⟨hk, rfl⟩ := rngL_at hx
    obtain ⟨p, dp, ep, p1, p2, kp⟩ := m_draw (m := 6) hd (by omega) (by omega) (by omega)
    exists ep
    refine ⟨dp, ps ++ [p], rfl, by rw [List.map_append]; rfl, by simp [hps], fun z hz => ?_, kp.mono (by omega)⟩
    rcases List.mem_append.mp hz with hz | hz
    · exact hp z hz
    · cases List.mem_singleton.mp hz
      omega
  · rintro acc Γ ⟨dk, ps, rfl, rfl, hps, hp, hd⟩
    rw [rngL_len] at hps hd
    have hps : ps.length = 4 := hps
    have hd : Dk (n + 14) dk := hd.mono (by show n + 10 + 4 ≤ n + 14; omega)
    match ps, hps with
    | [p0, p1, p2, p3], _ =>
      have z0 := hp p0 (by simp)
      have z1 := hp p1 (by simp)
      have z2 := hp p2 (by simp)
      have z3 := hp p3 (by simp)
      have fin : ∀ (l : Int) (dk : D), 0 ≤ l → l < 3 → Dk (n + 15) dk → ∃ s, D.tup [.int (1 + v1), .tup (sz.map D.int), .tup [.int (1 + r0), .int r1], .tup [.int (if decide (c0 > 0) = true then 1 else 0), .int c1], .tup (ks.map D.int), .int (1 + l), .tup [.int p0, .int p1, .int p2, .int p3]] = suD s ∧ SuOk s ∧ Dk (n + 20) dk := fun l dk l1 l2 hk =>
        ⟨⟨1 + v1, sz, 1 + r0, r1, if decide (c0 > 0) = true then 1 else 0, c1, ks, 1 + l, p0, p1, p2, p3⟩, rfl, ⟨by show 1 ≤ 1 + v1 ∧ 1 + v1 ≤ 4; omega, hsz, by show 1 ≤ 1 + r0 ∧ 1 + r0 ≤ 2; omega, by show 0 ≤ r1 ∧ r1 ≤ 2; omega, by show 0 ≤ (if decide (c0 > 0) = true then (1 : Int) else 0) ∧ (if decide (c0 > 0) = true then (1 : Int) else 0) ≤ 1; split <;> omega, by show 0 ≤ c1 ∧ c1 ≤ 2; omega, hks, by show 1 ≤ 1 + l ∧ 1 + l ≤ 3; omega, z0, z1, z2, z3⟩, hk.mono (by omega)⟩
      have hi : 0 ≤ (if decide (sm > 0) = true then (1 : Int) else 0) ∧ (if decide (sm > 0) = true then (1 : Int) else 0) ≤ 1 := by split <;> omega
      obtain ⟨l, dl, el, l1, l2, kl⟩ := m_draw (m := 3 - (if decide (sm > 0) = true then (1 : Int) else 0)) hd (by omega) (by omega) (by omega)
      exists el
      exact fin l dl l1 (by omega) (kl.mono (by omega))
end K19

set_option maxHeartbeats 4000000
namespace K19
open PySem PySem.Spec PyProof.Rows L2 Pd Zd
local macro_rules
  | `(tactic| exists $es,*) => `(tactic| ((repeat (first | (refine Wx.st ?_) | (refine W1.st ?_) | ((with_reducible refine Gd.mk ?_ ?_); first | exact rfl | assumption | omega | decide | exact sm_l rfl | exact sm_r rfl | exact sm_lo (by omega) (by omega) | exact sm_ro (by omega) (by omega) | (simp only [List.length_cons, List.length_nil, List.length_map, List.length_append, List.length_range, List.length_replicate, rngL_len, rngD_len]; omega)) | ((with_reducible refine Br.t ?_ ?_); first | exact rfl | assumption | exact decide_eq_true (by omega) | exact nt_of (by omega)) | ((with_reducible refine Br.f ?_ ?_); first | exact rfl | assumption | exact decide_eq_false (by omega) | exact nf_of (by omega)) $[| ((with_reducible apply W.to); ((with_reducible apply $es) <;> first | assumption | omega | exact rfl))]* $[| ((with_reducible apply Wp.to); ((with_reducible apply $es) <;> first | assumption | omega | exact rfl))]* $[| ((with_reducible refine Br.t ?_ ?_); ((with_reducible apply $es) <;> first | assumption | omega | exact rfl))]* $[| ((with_reducible refine Br.f ?_ ?_); ((with_reducible apply $es) <;> first | assumption | omega | exact rfl))]* | ((with_reducible apply W.to); exact rfl) | (with_reducible refine Nxt.nx ?_) | (with_reducible refine Nxt.ct ?_) | (with_reducible refine Nxt.br ?_) | (with_reducible refine Nxt.rt ?_))); (try dsimp only [nset_s, nset_0, putS, frzS, nget_s, nget_0, setAll, wip, rst, nget_D, nmap_c, nmap_n, napp_c, napp_n, nrep_s, nrep_0]); (repeat (first | (refine Wx.st ?_) | (refine W1.st ?_) | ((with_reducible refine Gd.mk ?_ ?_); first | exact rfl | assumption | omega | decide | exact sm_l rfl | exact sm_r rfl | exact sm_lo (by omega) (by omega) | exact sm_ro (by omega) (by omega) | (simp only [List.length_cons, List.length_nil, List.length_map, List.length_append, List.length_range, List.length_replicate, rngL_len, rngD_len]; omega)) | ((with_reducible refine Br.t ?_ ?_); first | exact rfl | assumption | exact decide_eq_true (by omega) | exact nt_of (by omega)) | ((with_reducible refine Br.f ?_ ?_); first | exact rfl | assumption | exact decide_eq_false (by omega) | exact nf_of (by omega)) $[| ((with_reducible apply W.to); ((with_reducible apply $es) <;> first | assumption | omega | exact rfl))]* $[| ((with_reducible apply Wp.to); ((with_reducible apply $es) <;> first | assumption | omega | exact rfl))]* $[| ((with_reducible refine Br.t ?_ ?_); ((with_reducible apply $es) <;> first | assumption | omega | exact rfl))]* $[| ((with_reducible refine Br.f ?_ ?_); ((with_reducible apply $es) <;> first | assumption | omega | exact rfl))]* | ((with_reducible apply W.to); exact rfl) | (with_reducible refine Nxt.nx ?_) | (with_reducible refine Nxt.ct ?_) | (with_reducible refine Nxt.br ?_) | (with_reducible refine Nxt.rt ?_))); (try dsimp only [nset_s, nset_0, putS, frzS, nget_s, nget_0, setAll, wip, rst, nget_D, nmap_c, nmap_n, napp_c, napp_n, nrep_s, nrep_0])))
theorem m_range {n : Int} {d : D} {most : Int} (h : Dk n d) (hn : n < 900000000) (h1 : 0 ≤ most) (h2 : most ≤ 9) :
    ∃ a b d', F__law_range d [.int most] = some (prD a b, d') ∧ (0 ≤ a ∧ a ≤ b ∧ b ≤ 9) ∧ Dk (n + 3) d' := by
  suffices h : Wp (F__law_range d [.int most]) (fun x d' => ∃ a b, x = prD a b ∧ (0 ≤ a ∧ a ≤ b ∧ b ≤ 9) ∧ Dk (n + 3) d') by
    obtain ⟨x, d', e, a, b, rfl, h⟩ := h
    exact ⟨a, b, d', e, h⟩
  obtain ⟨x, d0, e0, x1, x2, k0⟩ := m_draw (m := most + 1) h (by omega) (by omega) (by omega)
  obtain ⟨y, d1, e1, y1, y2, k1⟩ := m_draw (m := most + 1) k0 (by omega) (by omega) (by omega)
  obtain ⟨v, d2, e2, v1, v2, k2⟩ := m_draw (m := 6) k1 (by omega) (by omega) (by omega)
  obtain ⟨z, f0, a, b, rfl, hz⟩ := at_pick (xs := [prD 0 9, prD 0 9, prD x 9, prD 0 x, prD x x, prD (if y < x then y else x) (if y > x then y else x)]) (v := v) (fun z => ∃ a b, z = prD a b ∧ (0 ≤ a ∧ a ≤ b ∧ b ≤ 9)) (by
    intro z hz
    simp only [List.mem_cons, List.not_mem_nil, or_false] at hz
    rcases hz with rfl | rfl | rfl | rfl | rfl | rfl
    · exact ⟨_, _, rfl, by omega⟩
    · exact ⟨_, _, rfl, by omega⟩
    · exact ⟨_, _, rfl, by omega⟩
    · exact ⟨_, _, rfl, by omega⟩
    · exact ⟨_, _, rfl, by omega⟩
    · exact ⟨_, _, rfl, by repeat' split
                           all_goals omega⟩) v1 v2
  unfold F__law_range u__law_range
  exists e0, e1, e2, f0
  exact ⟨a, b, rfl, hz, k2.mono (by omega)⟩
theorem m_seats {n : Int} {d : D} {mo : Int} {df : Bool} (h : Dk n d) (hn : n < 100000000) (h1 : 1 ≤ mo) (h2 : mo ≤ 3) :
    ∃ rs d', F__law_seats d [.int mo, .bl df] = some (ruD rs, d') ∧ (∀ r ∈ rs, RwOk seatDeeds (mo - 1) r ∧ (df = true → r.a3 = 0 ∧ r.b3 = 9)) ∧ rs.length ≤ 6 ∧ Dk (n + 200) d' := by
  suffices h : Wp (F__law_seats d [.int mo, .bl df]) (fun x d' => ∃ rs, x = ruD rs ∧ (∀ r ∈ rs, RwOk seatDeeds (mo - 1) r ∧ (df = true → r.a3 = 0 ∧ r.b3 = 9)) ∧ rs.length ≤ 6 ∧ Dk (n + 200) d') by
    obtain ⟨x, d', e, a, rfl, h⟩ := h
    exact ⟨a, d', e, h⟩
  obtain ⟨v0, d0, e0, v01, v02, k0⟩ := m_draw (m := 3) h (by omega) (by omega) (by omega)
  obtain ⟨x0, f0, x01, x02⟩ := at_int (xs := [4, 5, 7]) (v := v0) (lo := 4) (hi := 7) (by decide) v01 v02
  have f0 : atI [D.int 4, .int 5, .int 7] v0 = some (.int x0) := f0
  obtain ⟨v1, d1, e1, v11, v12, k1⟩ := m_draw (m := x0) k0 (by omega) (by omega) (by omega)
  unfold F__law_seats u__law_seats
  exists e0, f0, e1
  refine for_inv (fun k Γ => ∃ (dk : D) (rs : List Rw) (j4 j5 j6 : Sl), Γ = [.byr dk, .val (.int mo), .val (.bl df), .own (.lst (rs.map rwD)), j4, j5, j6] ∧ rs.length = k ∧ (∀ r ∈ rs, RwOk seatDeeds (mo - 1) r ∧ (df = true → r.a3 = 0 ∧ r.b3 = 9)) ∧ Dk (n + 2 + 20 * k) dk)
    ⟨d1, [], _, _, _, rfl, rfl, (fun _ h => by cases h), k1.mono (by omega)⟩ ?_ ?_
  · rintro k x Γ hx ⟨dk, rs, j4, j5, j6, rfl, hrs, hok, hd⟩
    obtain ⟨hk, rfl⟩ := rngL_at hx
    obtain ⟨u, du, eu, u1, u2, ku⟩ := m_draw (m := 5) hd (by omega) (by omega) (by omega)
    obtain ⟨z, fz, dd, rfl, hdd⟩ := at_pick (xs := [D.str "group", D.str "group", D.str "single", D.str "single", D.str "go"]) (v := u) (fun z => ∃ s : Str, z = .str s ∧ s ∈ seatDeeds) (by
      intro z hz
      simp only [List.mem_cons, List.not_mem_nil, or_false] at hz
      rcases hz with rfl | rfl | rfl | rfl | rfl <;> exact ⟨_, rfl, by simp⟩) u1 u2
    obtain ⟨a0, b0, w0, g0, z0, l0⟩ := m_range (most := 4) ku (by omega) (by omega) (by omega)
    obtain ⟨a1, b1, w1, g1, z1, l1⟩ := m_range (most := 4) l0 (by omega) (by omega) (by omega)
    obtain ⟨a2, b2, w2, g2, z2, l2⟩ := m_range (most := 2) l1 (by omega) (by omega) (by omega)
    have hl : (rs.map rwD).length < 10000000 := by rw [List.length_map]; omega
    have fin : ∀ (a3 b3 p q : Int) (dk : D) (j4 j5 j6 : Sl), (0 ≤ a3 ∧ a3 ≤ b3 ∧ b3 ≤ 9) → (df = true → a3 = 0 ∧ b3 = 9) → 0 ≤ p → p < mo → 0 ≤ q → q < mo → Dk (n + 22 + 20 * k) dk → ∃ (dk' : D) (rs' : List Rw) (i4 i5 i6 : Sl), [.byr dk, .val (.int mo), .val (.bl df), Sl.own (.lst (rs.map rwD ++ [.tup [.int p, prD a0 b0, prD a1 b1, prD a2 b2, prD a3 b3, .str dd, .int q]])), j4, j5, j6] = [.byr dk', .val (.int mo), .val (.bl df), .own (.lst (rs'.map rwD)), i4, i5, i6] ∧ rs'.length = k + 1 ∧ (∀ r ∈ rs', RwOk seatDeeds (mo - 1) r ∧ (df = true → r.a3 = 0 ∧ r.b3 = 9)) ∧ Dk (n + 2 + 20 * ((k + 1 : Nat) : Int)) dk' := fun a3 b3 p q dk j4 j5 j6 q1 q2 q3 q4 q5 q6 q7 => by
      refine ⟨dk, rs ++ [⟨p, a0, b0, a1, b1, a2, b2, a3, b3, dd, q⟩], _, _, _, by rw [List.map_append]; rfl, by simp [hrs], fun r hr => ?_, q7.mono (by omega)⟩
      rcases List.mem_append.mp hr with hr | hr
      · exact hok r hr
      · cases List.mem_singleton.mp hr
        exact ⟨⟨by show 0 ≤ p ∧ p ≤ mo - 1; omega, by show 0 ≤ q ∧ q ≤ mo - 1; omega, z0, z1, z2, q1, hdd⟩, q2⟩
    cases df with
    | true =>
      obtain ⟨p, dp, ep, p1, p2, kp⟩ := m_draw (m := mo) l2 (by omega) (by omega) (by omega)
      obtain ⟨q, dq, eq, q1, q2, kq⟩ := m_draw (m := mo) kp (by omega) (by omega) (by omega)
      exists eu, fz, g0, g1, g2, ep, eq
      exact fin 0 9 p q dq _ _ _ (by decide) (fun _ => ⟨rfl, rfl⟩) p1 p2 q1 q2 (kq.mono (by omega))
    | false =>
      obtain ⟨a3, b3, w3, g3, z3, l3⟩ := m_range (most := 4) l2 (by omega) (by omega) (by omega)
      obtain ⟨p, dp, ep, p1, p2, kp⟩ := m_draw (m := mo) l3 (by omega) (by omega) (by omega)
      obtain ⟨q, dq, eq, q1, q2, kq⟩ := m_draw (m := mo) kp (by omega) (by omega) (by omega)
      exists eu, fz, g0, g1, g2, g3, ep, eq
      exact fin a3 b3 p q dq _ _ _ z3 (fun h => by cases h) p1 p2 q1 q2 (kq.mono (by omega))
  · rintro Γ ⟨dk, rs, j4, j5, j6, rfl, hrs, hok, hd⟩
    rw [rngL_len] at hrs hd
    exists rfl
    exact ⟨rs, rfl, hok, by omega, hd.mono (by omega)⟩
end K19

set_option maxHeartbeats 4000000
namespace K19
open PySem PySem.Spec PyProof.Rows L2 Pd Zd
local macro_rules
  | `(tactic| exists $es,*) => `(tactic| ((repeat (first | (refine Wx.st ?_) | (refine W1.st ?_) | ((with_reducible refine Gd.mk ?_ ?_); first | exact rfl | assumption | omega | decide | exact sm_l rfl | exact sm_r rfl | exact sm_lo (by omega) (by omega) | exact sm_ro (by omega) (by omega) | (simp only [List.length_cons, List.length_nil, List.length_map, List.length_append, List.length_range, List.length_replicate, rngL_len, rngD_len]; omega)) | ((with_reducible refine Br.t ?_ ?_); first | exact rfl | assumption | exact decide_eq_true (by omega) | exact nt_of (by omega)) | ((with_reducible refine Br.f ?_ ?_); first | exact rfl | assumption | exact decide_eq_false (by omega) | exact nf_of (by omega)) $[| ((with_reducible apply W.to); ((with_reducible apply $es) <;> first | assumption | omega | exact rfl))]* $[| ((with_reducible apply Wp.to); ((with_reducible apply $es) <;> first | assumption | omega | exact rfl))]* $[| ((with_reducible refine Br.t ?_ ?_); ((with_reducible apply $es) <;> first | assumption | omega | exact rfl))]* $[| ((with_reducible refine Br.f ?_ ?_); ((with_reducible apply $es) <;> first | assumption | omega | exact rfl))]* | ((with_reducible apply W.to); exact rfl) | (with_reducible refine Nxt.nx ?_) | (with_reducible refine Nxt.ct ?_) | (with_reducible refine Nxt.br ?_) | (with_reducible refine Nxt.rt ?_))); (try dsimp only [nset_s, nset_0, putS, frzS, nget_s, nget_0, setAll, wip, rst, nget_D, nmap_c, nmap_n, napp_c, napp_n, nrep_s, nrep_0]); (repeat (first | (refine Wx.st ?_) | (refine W1.st ?_) | ((with_reducible refine Gd.mk ?_ ?_); first | exact rfl | assumption | omega | decide | exact sm_l rfl | exact sm_r rfl | exact sm_lo (by omega) (by omega) | exact sm_ro (by omega) (by omega) | (simp only [List.length_cons, List.length_nil, List.length_map, List.length_append, List.length_range, List.length_replicate, rngL_len, rngD_len]; omega)) | ((with_reducible refine Br.t ?_ ?_); first | exact rfl | assumption | exact decide_eq_true (by omega) | exact nt_of (by omega)) | ((with_reducible refine Br.f ?_ ?_); first | exact rfl | assumption | exact decide_eq_false (by omega) | exact nf_of (by omega)) $[| ((with_reducible apply W.to); ((with_reducible apply $es) <;> first | assumption | omega | exact rfl))]* $[| ((with_reducible apply Wp.to); ((with_reducible apply $es) <;> first | assumption | omega | exact rfl))]* $[| ((with_reducible refine Br.t ?_ ?_); ((with_reducible apply $es) <;> first | assumption | omega | exact rfl))]* $[| ((with_reducible refine Br.f ?_ ?_); ((with_reducible apply $es) <;> first | assumption | omega | exact rfl))]* | ((with_reducible apply W.to); exact rfl) | (with_reducible refine Nxt.nx ?_) | (with_reducible refine Nxt.ct ?_) | (with_reducible refine Nxt.br ?_) | (with_reducible refine Nxt.rt ?_))); (try dsimp only [nset_s, nset_0, putS, frzS, nget_s, nget_0, setAll, wip, rst, nget_D, nmap_c, nmap_n, napp_c, napp_n, nrep_s, nrep_0])))
theorem m_int {i lo hi : Int} (h1 : lo ≤ i) (h2 : i ≤ hi) : F_is_integer [.int i, .int lo, .int hi] = some (.bl true) := by
  rw [eqW]
  unfold F_is_integer u_is_integer
  exists rfl
  rw [decide_eq_true h2]
theorem m_choice {l : List Int} {m : Int} (h : Chc l m) : F_is_choice [intsD l, .int m] = some (.bl true) := by
  rw [eqW]
  unfold F_is_choice u_is_choice
  have n2 : niD (.int 2) (.tup [.int 1, .int 2]) = some (.bl false) := niT_no (n := 0) (fun x hx => by simp at hx; rcases hx with rfl | rfl <;> exact .int _) (.int _) (by simp)
  have n1 : niD (.int 1) (.tup [.int 1, .int 2]) = some (.bl false) := niT_no (n := 0) (fun x hx => by simp at hx; rcases hx with rfl | rfl <;> exact .int _) (.int _) (by simp)
  rcases h with ⟨a, rfl, h1, h2⟩ | ⟨a, b, rfl, h1, h2, h3⟩
  · have e := m_int h1 h2
    exists n1
    refine lc_enc (xs := [a]) (enc := D.int) (h := fun _ => .bl true) ?_ ?_
    · intro p hp
      cases List.mem_singleton.mp hp
      exists e
      exact ⟨rfl, rfl⟩
    · dsimp only [nmap_c, nmap_n]
      exists all1 _, eqD_int _ _
  · exists n2
    refine lc_enc (xs := [a, b]) (enc := D.int) (h := fun _ => .bl true) ?_ ?_
    · intro p hp
      have e : F_is_integer [.int p, .int 1, .int m] = some (.bl true) := by
        simp at hp
        rcases hp with rfl | rfl
        · exact m_int h1 (by omega)
        · exact m_int (by omega) h3
      exists e
      exact ⟨rfl, rfl⟩
    · dsimp only [nmap_c, nmap_n]
      exists all2 _ _, eqD_int _ _
      rw [decide_eq_true h2]
theorem m_row_of2 {a b l1 l2 h1 h2 : Int} (p1 : l1 ≤ a ∧ a ≤ h1) (p2 : l2 ≤ b ∧ b ≤ h2) : F_is_row_of [prD a b, prD l1 l2, prD h1 h2] = some (.bl true) := by
  rw [eqW]
  unfold F_is_row_of u_is_row_of
  have z : zip3 [prD a b, prD l1 l2, prD h1 h2] = some [.tup [.int a, .int l1, .int h1], .tup [.int b, .int l2, .int h2]] := rfl
  exists nei_f (x := 2) (y := 2) rfl, z
  refine lc_enc (xs := [(a, l1, h1), (b, l2, h2)]) (enc := fun p => .tup [.int p.1, .int p.2.1, .int p.2.2]) (h := fun _ => .bl true) ?_ ?_
  · intro p hp
    have e : F_is_integer [.int p.1, .int p.2.1, .int p.2.2] = some (.bl true) := by
      simp at hp
      rcases hp with rfl | rfl
      · exact m_int p1.1 p1.2
      · exact m_int p2.1 p2.2
    exists e
    exact ⟨rfl, rfl⟩
  · dsimp only [nmap_c, nmap_n]
    exists all2 _ _
    rfl
theorem m_row_of4 {a b c d h : Int} (p1 : 0 ≤ a ∧ a ≤ h) (p2 : 0 ≤ b ∧ b ≤ h) (p3 : 0 ≤ c ∧ c ≤ h) (p4 : 0 ≤ d ∧ d ≤ h) : F_is_row_of [.tup [.int a, .int b, .int c, .int d], .tup [.int 0, .int 0, .int 0, .int 0], .tup [.int h, .int h, .int h, .int h]] = some (.bl true) := by
  rw [eqW]
  unfold F_is_row_of u_is_row_of
  have z : zip3 [.tup [.int a, .int b, .int c, .int d], .tup [.int 0, .int 0, .int 0, .int 0], .tup [.int h, .int h, .int h, .int h]] = some [.tup [.int a, .int 0, .int h], .tup [.int b, .int 0, .int h], .tup [.int c, .int 0, .int h], .tup [.int d, .int 0, .int h]] := rfl
  exists nei_f (x := 4) (y := 4) rfl, z
  refine lc_enc (xs := [a, b, c, d]) (enc := fun p => .tup [.int p, .int 0, .int h]) (h := fun _ => .bl true) ?_ ?_
  · intro p hp
    have e : F_is_integer [.int p, .int 0, .int h] = some (.bl true) := by
      simp at hp
      rcases hp with rfl | rfl | rfl | rfl
      · exact m_int p1.1 p1.2
      · exact m_int p2.1 p2.2
      · exact m_int p3.1 p3.2
      · exact m_int p4.1 p4.2
    exists e
    exact ⟨rfl, rfl⟩
  · dsimp only [nmap_c, nmap_n]
    exists all4 _ _ _ _
    rfl
theorem m_setupOk {s : Su} (h : SuOk s) : F_is_setup [suD s] = some (.bl true) := by
  have e1 := m_int h.pe.1 h.pe.2
  have e2 := m_choice h.sz
  have e3 : F_is_row_of [prD s.r0 s.r1, .tup [.int 1, .int 0], .tup [.int 2, .int 2]] = some (.bl true) := m_row_of2 h.r0 h.r1
  have e4 : F_is_row_of [prD s.c0 s.c1, .tup [.int 0, .int 0], .tup [.int 1, .int 2]] = some (.bl true) := m_row_of2 h.c0 h.c1
  have e5 := m_choice h.ki
  have e6 := m_int h.li.1 h.li.2
  have e7 : F_is_row_of [.tup [.int s.p0, .int s.p1, .int s.p2, .int s.p3], .tup [.int 0, .int 0, .int 0, .int 0], .tup (List.replicate (Int.toNat 4) [D.int 5]).flatten] = some (.bl true) := m_row_of4 h.p0 h.p1 h.p2 h.p3
  rw [eqW]
  unfold F_is_setup u_is_setup
  exists nei_f (x := 7) (y := 7) rfl, e1, e2, e3, e4, e5, e6, e7
theorem m_needSetup {s : Su} (h : SuOk s) : F_need_setup [suD s] = some .non := by
  have e := m_setupOk h
  rw [eqW]
  unfold F_need_setup u_need_setup
  exists e
end K19

set_option maxHeartbeats 4000000
namespace K19
open PySem PySem.Spec PyProof.Rows L2 Pd Zd
local macro_rules
  | `(tactic| exists $es,*) => `(tactic| ((repeat (first | (refine Wx.st ?_) | (refine W1.st ?_) | ((with_reducible refine Gd.mk ?_ ?_); first | exact rfl | assumption | omega | decide | exact sm_l rfl | exact sm_r rfl | exact sm_lo (by omega) (by omega) | exact sm_ro (by omega) (by omega) | (simp only [List.length_cons, List.length_nil, List.length_map, List.length_append, List.length_range, List.length_replicate, rngL_len, rngD_len]; omega)) | ((with_reducible refine Br.t ?_ ?_); first | exact rfl | assumption | exact decide_eq_true (by omega) | exact nt_of (by omega)) | ((with_reducible refine Br.f ?_ ?_); first | exact rfl | assumption | exact decide_eq_false (by omega) | exact nf_of (by omega)) $[| ((with_reducible apply W.to); ((with_reducible apply $es) <;> first | assumption | omega | exact rfl))]* $[| ((with_reducible apply Wp.to); ((with_reducible apply $es) <;> first | assumption | omega | exact rfl))]* $[| ((with_reducible refine Br.t ?_ ?_); ((with_reducible apply $es) <;> first | assumption | omega | exact rfl))]* $[| ((with_reducible refine Br.f ?_ ?_); ((with_reducible apply $es) <;> first | assumption | omega | exact rfl))]* | ((with_reducible apply W.to); exact rfl) | (with_reducible refine Nxt.nx ?_) | (with_reducible refine Nxt.ct ?_) | (with_reducible refine Nxt.br ?_) | (with_reducible refine Nxt.rt ?_))); (try dsimp only [nset_s, nset_0, putS, frzS, nget_s, nget_0, setAll, wip, rst, nget_D, nmap_c, nmap_n, napp_c, napp_n, nrep_s, nrep_0]); (repeat (first | (refine Wx.st ?_) | (refine W1.st ?_) | ((with_reducible refine Gd.mk ?_ ?_); first | exact rfl | assumption | omega | decide | exact sm_l rfl | exact sm_r rfl | exact sm_lo (by omega) (by omega) | exact sm_ro (by omega) (by omega) | (simp only [List.length_cons, List.length_nil, List.length_map, List.length_append, List.length_range, List.length_replicate, rngL_len, rngD_len]; omega)) | ((with_reducible refine Br.t ?_ ?_); first | exact rfl | assumption | exact decide_eq_true (by omega) | exact nt_of (by omega)) | ((with_reducible refine Br.f ?_ ?_); first | exact rfl | assumption | exact decide_eq_false (by omega) | exact nf_of (by omega)) $[| ((with_reducible apply W.to); ((with_reducible apply $es) <;> first | assumption | omega | exact rfl))]* $[| ((with_reducible apply Wp.to); ((with_reducible apply $es) <;> first | assumption | omega | exact rfl))]* $[| ((with_reducible refine Br.t ?_ ?_); ((with_reducible apply $es) <;> first | assumption | omega | exact rfl))]* $[| ((with_reducible refine Br.f ?_ ?_); ((with_reducible apply $es) <;> first | assumption | omega | exact rfl))]* | ((with_reducible apply W.to); exact rfl) | (with_reducible refine Nxt.nx ?_) | (with_reducible refine Nxt.ct ?_) | (with_reducible refine Nxt.br ?_) | (with_reducible refine Nxt.rt ?_))); (try dsimp only [nset_s, nset_0, putS, frzS, nget_s, nget_0, setAll, wip, rst, nget_D, nmap_c, nmap_n, napp_c, napp_n, nrep_s, nrep_0])))
theorem t_int {d : D} (hp : Pln d) {lo hi : Int} : F_is_integer [d, .int lo, .int hi] = some (.bl (isIntB lo hi d)) := by
  rw [eqW]
  unfold F_is_integer u_is_integer
  cases hp with
  | int i =>
    by_cases h1 : lo ≤ i
    · exists rfl
      show D.bl (decide (i ≤ hi)) = .bl (decide (lo ≤ i) && decide (i ≤ hi))
      rw [decide_eq_true h1]; rfl
    · exists rfl
      show D.bl false = .bl (decide (lo ≤ i) && decide (i ≤ hi))
      rw [decide_eq_false h1]; rfl
  | _ => (exists rfl) <;> rfl
theorem t_are {d : D} (hp : Pln d) {rs : List (Int × Int)} (hr : rs.length ≤ 10) : F_is_row_of [d, loD rs, hiD rs] = some (.bl (arB rs d)) := by
  rw [eqW]
  unfold F_is_row_of u_is_row_of
  cases hp with
  | tup h =>
    rename_i ds
    by_cases hl : ds.length = rs.length
    · have c1 : neD (.int (ds.length : Nat)) (.int ((rs.map fun p => D.int p.1).length : Nat)) = some (.bl false) := nei_f (by rw [List.length_map]; omega)
      have z := zip3_rs (rs := rs) (ds := ds)
      have hz : ((ds.zip rs).map fun p => D.tup [p.1, .int p.2.1, .int p.2.2]).length ≤ 10000000 := by rw [List.length_map, List.length_zip]; omega
      exists c1, z
      refine lc_enc (xs := ds.zip rs) (enc := fun p => .tup [p.1, .int p.2.1, .int p.2.2]) (h := fun p => .bl (isIntB p.2.1 p.2.2 p.1)) ?_ ?_
      · rintro ⟨x, lo, hi⟩ hq
        exists t_int (h x (List.of_mem_zip hq).1)
        exact ⟨rfl, rfl⟩
      · have e : allD [.lst ((ds.zip rs).map fun p => .bl (isIntB p.2.1 p.2.2 p.1))] = some (.bl ((ds.zip rs).all fun p => isIntB p.2.1 p.2.2 p.1)) := by
          have := allD_map ((ds.zip rs).map fun p => isIntB p.2.1 p.2.2 p.1)
          rw [List.map_map, List.all_map] at this
          exact this
        exists e
        show D.bl _ = .bl (lvB rs ds)
        rw [lvB_zip hl]
    · have c1 : neD (.int (ds.length : Nat)) (.int ((rs.map fun p => D.int p.1).length : Nat)) = some (.bl true) := nei_t (by rw [List.length_map]; omega)
      exists c1
      show D.bl false = .bl (lvB rs ds)
      rw [lvB_ne hl]
  | _ => (exists rfl) <;> rfl
theorem t_range {d : D} (hp : Pln d) : F_is_range [d] = some (.bl (rangeB d)) := by
  have s2 : slD (some 1) none (.tup [.int 0, .int 9]) = some (.tup [.int 9]) := rfl
  have e1 : F_is_row_of [d, .tup [.int 0, .int 0], .tup (List.replicate (Int.toNat 2) [D.int 9]).flatten] = some (.bl (arB [(0, 9), (0, 9)] d)) := t_are hp (rs := [(0, 9), (0, 9)]) (by decide)
  cases z : arB [(0, 9), (0, 9)] d with
  | false =>
    rw [z] at e1
    have hb : rangeB d = false := by
      unfold rangeB
      split
      · rename_i a b
        have z : (isIntB 0 9 a && (isIntB 0 9 b && true)) = false := z
        rw [Bool.and_true] at z
        rw [z]; rfl
      · rfl
    rw [hb, eqW]
    unfold F_is_range u_is_range
    (exists s2, e1) <;> rfl
  | true =>
    rw [z] at e1
    cases hp with
    | tup h =>
      rename_i ds
      have hl := lvB_len z
      match ds, hl with
      | [a, b], _ =>
        have z : (isIntB 0 9 a && (isIntB 0 9 b && true)) = true := z
        rw [Bool.and_true] at z
        obtain ⟨z1, z2⟩ := Bool.and_eq_true_iff.mp z
        obtain ⟨i, rfl, _⟩ := isIntB_of z1
        obtain ⟨j, rfl, _⟩ := isIntB_of z2
        rw [eqW]
        unfold F_is_range u_is_range
        exists s2, e1
        show D.bl (decide (i ≤ j)) = .bl (isIntB 0 9 (.int i) && isIntB 0 9 (.int j) && leB (.int i) (.int j))
        rw [z]; rfl
    | _ => cases z
theorem t_row7 {deeds : List Str} {m a b c d e n : D} (h : ∀ x ∈ [m, a, b, c, d, e, n], Pln x) : F_is_rule_row [.tup [m, a, b, c, d, e, n], .tup (deeds.map D.str)] = some (.bl (rowB deeds (.tup [m, a, b, c, d, e, n]))) := by
  have e1 := t_int (h m (by simp)) (lo := 0) (hi := 2)
  have e2 := t_int (h n (by simp)) (lo := 0) (hi := 2)
  have s1 : slD (some 1) (some 5) (.tup [m, a, b, c, d, e, n]) = some (.tup [a, b, c, d]) := rfl
  have c1 : neD (.int ([m, a, b, c, d, e, n].length : Nat)) (.int 7) = some (.bl false) := nei_f rfl
  show _ = some (D.bl (isIntB 0 2 m && isIntB 0 2 n && strInB deeds e && (rangeB a && (rangeB b && (rangeB c && rangeB d)))))
  rw [eqW]
  unfold F_is_rule_row u_is_rule_row
  cases z1 : isIntB 0 2 m with
  | false =>
    rw [z1] at e1
    (exists c1, e1) <;> rfl
  | true =>
    rw [z1] at e1
    cases z2 : isIntB 0 2 n with
    | false =>
      rw [z2] at e2
      (exists c1, e1, e2) <;> rfl
    | true =>
      rw [z2] at e2
      have he := h e (by simp)
      have fin : ∀ x, e = .str x → W (some (D.bl (strInB deeds (.str x) && (rangeB a && (rangeB b && (rangeB c && rangeB d)))))) (fun y => y = D.bl (true && true && strInB deeds e && (rangeB a && (rangeB b && (rangeB c && rangeB d))))) := fun x hx => by subst hx; exact ⟨_, rfl, rfl⟩
      cases he with
      | str x =>
        have e3 : niD (.str x) (.tup (deeds.map D.str)) = some (.bl (!decide (x ∈ deeds))) := niD_strs
        by_cases hx : x ∈ deeds
        · rw [decide_eq_true hx] at e3
          exists c1, e1, e2, e3, s1
          refine lc_enc (xs := [a, b, c, d]) (enc := fun p => p) (h := fun p => .bl (rangeB p)) ?_ ?_
          · intro p hp
            have e := t_range (h p (by simp at hp ⊢; rcases hp with rfl | rfl | rfl | rfl <;> simp))
            exists e
            exact ⟨rfl, rfl⟩
          · dsimp only [nmap_c, nmap_n]
            exists all4 _ _ _ _
            show D.bl _ = .bl (true && true && decide (x ∈ deeds) && _)
            rw [decide_eq_true hx]; rfl
        · rw [decide_eq_false hx] at e3
          exists c1, e1, e2, e3
          show D.bl _ = .bl (true && true && decide (x ∈ deeds) && _)
          rw [decide_eq_false hx]; rfl
      | _ => (exists c1, e1, e2) <;> rfl
theorem t_row {deeds : List Str} {d : D} (h : Pln d) : F_is_rule_row [d, .tup (deeds.map D.str)] = some (.bl (rowB deeds d)) := by
  by_cases h7 : ∃ m a b c d' e n, d = .tup [m, a, b, c, d', e, n]
  · obtain ⟨m, a, b, c, d', e, n, rfl⟩ := h7
    cases h with
    | tup h => exact t_row7 h
  · have hb : rowB deeds d = false := by
      unfold rowB
      split
      · exact absurd ⟨_, _, _, _, _, _, _, rfl⟩ h7
      · rfl
    rw [hb, eqW]
    unfold F_is_rule_row u_is_rule_row
    cases h with
    | tup h =>
      rename_i ds
      have c1 : neD (.int (ds.length : Nat)) (.int 7) = some (.bl true) := nei_t fun q => by
        have : ds.length = 7 := by omega
        match ds, this with
        | [m, a, b, c, d', e, n], _ => exact h7 ⟨_, _, _, _, _, _, _, rfl⟩
      (exists c1) <;> rfl
    | _ => (exists rfl) <;> rfl
theorem t_rule {deeds : List Str} {d : D} (h : Pln d) : F_is_rule_of [d, .tup (deeds.map D.str)] = some (.bl (ruleB deeds d)) := by
  rw [eqW]
  unfold F_is_rule_of u_is_rule_of
  cases h with
  | tup h =>
    rename_i ds
    show W _ fun x => x = D.bl (decide (ds.length ≤ 6) && ds.all (rowB deeds))
    by_cases hl : ds.length ≤ 6
    · rw [decide_eq_true hl]
      exists rfl
      refine lc_ds (h := fun p => .bl (rowB deeds p)) ?_ ?_
      · intro p hp
        exists t_row (h p hp)
        exact ⟨rfl, rfl⟩
      · exists allD_bl
        rfl
    · rw [decide_eq_false hl]
      (exists rfl) <;> rfl
  | _ => (exists rfl) <;> rfl
theorem t_seats {d : D} (h : Pln d) : F_is_seats [d] = some (.bl (ruleB seatDeeds d)) := by
  have e : F_is_rule_of [d, .tup [.str "group", .str "single", .str "go"]] = some (.bl (ruleB seatDeeds d)) := t_rule (deeds := seatDeeds) h
  rw [eqW]
  unfold F_is_seats u_is_seats
  (exists e) <;> rfl
theorem g12 : ∀ z ∈ [D.int 1, .int 2], Gr 0 z := fun z hz => by
  simp only [List.mem_cons, List.not_mem_nil, or_false] at hz
  rcases hz with rfl | rfl <;> exact .int _
theorem t_choice {d : D} (hp : Pln d) {m : Int} : F_is_choice [d, .int m] = some (.bl (chB m d)) := by
  rw [eqW]
  unfold F_is_choice u_is_choice
  cases hp with
  | tup h =>
    rename_i ds
    rcases ds with _ | ⟨a, _ | ⟨b, _ | ⟨c, ds⟩⟩⟩
    · have e1 : niD (.int (([] : List D).length : Nat)) (.tup [.int 1, .int 2]) = some (.bl true) := niT_yes (n := 0) g12 (.int _) (by simp)
      (exists e1) <;> rfl
    · have e1 : niD (.int ([a].length : Nat)) (.tup [.int 1, .int 2]) = some (.bl false) := niT_no (n := 0) g12 (.int _) (by simp)
      show W _ fun x => x = D.bl (isIntB 1 m a)
      exists e1
      refine lc_ds (h := fun p => .bl (isIntB 1 m p)) ?_ ?_
      · intro p hq
        exists t_int (h p hq)
        exact ⟨rfl, rfl⟩
      · have e2 : allD [.lst ([a].map fun p => .bl (isIntB 1 m p))] = some (.bl (isIntB 1 m a && true)) := allD_bl
        rw [Bool.and_true] at e2
        cases z : isIntB 1 m a with
        | false => rw [z] at e2; (exists e2) <;> rfl
        | true => rw [z] at e2; (exists e2, eqi_t (x := 1) (y := 1) rfl) <;> rfl
    · have e1 : niD (.int ([a, b].length : Nat)) (.tup [.int 1, .int 2]) = some (.bl false) := niT_no (n := 0) g12 (.int _) (by simp)
      show W _ fun x => x = D.bl (isIntB 1 m a && isIntB 1 m b && ltB a b)
      exists e1
      refine lc_ds (h := fun p => .bl (isIntB 1 m p)) ?_ ?_
      · intro p hq
        exists t_int (h p hq)
        exact ⟨rfl, rfl⟩
      · have e2 : allD [.lst ([a, b].map fun p => .bl (isIntB 1 m p))] = some (.bl (isIntB 1 m a && (isIntB 1 m b && true))) := allD_bl
        rw [Bool.and_true] at e2
        cases z : isIntB 1 m a && isIntB 1 m b with
        | false => rw [z] at e2; (exists e2) <;> rfl
        | true =>
          rw [z] at e2
          obtain ⟨z1, z2⟩ := Bool.and_eq_true_iff.mp z
          obtain ⟨i, rfl, _⟩ := isIntB_of z1
          obtain ⟨j, rfl, _⟩ := isIntB_of z2
          (exists e2, eqi_f (x := 2) (y := 1) (by decide)) <;> rfl
    · have e1 : niD (.int ((a :: b :: c :: ds).length : Nat)) (.tup [.int 1, .int 2]) = some (.bl true) := by
        refine (niT_yes (n := 0) (ds := [D.int 1, .int 2]) g12 (.int _) ?_)
        · intro hz
          simp only [List.mem_cons, List.not_mem_nil, or_false, D.int.injEq, List.length_cons] at hz
          omega
      (exists e1) <;> rfl
  | _ => (exists rfl) <;> rfl
theorem t_setup {d : D} (hp : Pln d) : F_is_setup [d] = some (.bl (setupB d)) := by
  by_cases h7 : ∃ a b c d' e f g, d = .tup [a, b, c, d', e, f, g]
  · obtain ⟨a, b, c, d', e, f, g, rfl⟩ := h7
    cases hp with
    | tup h =>
      have e1 := t_int (h a (by simp)) (lo := 1) (hi := 4)
      have e3 : F_is_row_of [c, .tup [.int 1, .int 0], .tup [.int 2, .int 2]] = some (.bl (arB [(1, 2), (0, 2)] c)) := t_are (h c (by simp)) (rs := [(1, 2), (0, 2)]) (by decide)
      have e4 : F_is_row_of [d', .tup [.int 0, .int 0], .tup [.int 1, .int 2]] = some (.bl (arB [(0, 1), (0, 2)] d')) := t_are (h d' (by simp)) (rs := [(0, 1), (0, 2)]) (by decide)
      have e5 := t_choice (h e (by simp)) (m := 4)
      have e6 := t_int (h f (by simp)) (lo := 1) (hi := 3)
      have e7 : F_is_row_of [g, .tup [.int 0, .int 0, .int 0, .int 0], .tup (List.replicate (Int.toNat 4) [D.int 5]).flatten] = some (.bl (arB [(0, 5), (0, 5), (0, 5), (0, 5)] g)) := t_are (h g (by simp)) (rs := [(0, 5), (0, 5), (0, 5), (0, 5)]) (by decide)
      have c1 : neD (.int ([a, b, c, d', e, f, g].length : Nat)) (.int 7) = some (.bl false) := nei_f rfl
      rw [eqW]
      show W _ fun x => x = D.bl (isIntB 1 4 a && (chA a b && (arB [(1, 2), (0, 2)] c && (arB [(0, 1), (0, 2)] d' && (chB 4 e && (isIntB 1 3 f && arB [(0, 5), (0, 5), (0, 5), (0, 5)] g))))))
      unfold F_is_setup u_is_setup
      cases z1 : isIntB 1 4 a with
      | false =>
        rw [z1] at e1
        (exists c1, e1) <;> rfl
      | true =>
        rw [z1] at e1
        obtain ⟨i, rfl, _⟩ := isIntB_of z1
        have e2 := t_choice (h b (by simp)) (m := i)
        show W _ fun x => x = D.bl (true && (chB i b && (arB [(1, 2), (0, 2)] c && (arB [(0, 1), (0, 2)] d' && (chB 4 e && (isIntB 1 3 f && arB [(0, 5), (0, 5), (0, 5), (0, 5)] g))))))
        cases z2 : chB i b with
        | false =>
          rw [z2] at e2
          (exists c1, e1, e2) <;> rfl
        | true =>
          rw [z2] at e2
          cases z3 : arB [(1, 2), (0, 2)] c with
          | false =>
            rw [z3] at e3
            (exists c1, e1, e2, e3) <;> rfl
          | true =>
            rw [z3] at e3
            cases z4 : arB [(0, 1), (0, 2)] d' with
            | false =>
              rw [z4] at e4
              (exists c1, e1, e2, e3, e4) <;> rfl
            | true =>
              rw [z4] at e4
              cases z5 : chB 4 e with
              | false =>
                rw [z5] at e5
                (exists c1, e1, e2, e3, e4, e5) <;> rfl
              | true =>
                rw [z5] at e5
                cases z6 : isIntB 1 3 f with
                | false =>
                  rw [z6] at e6
                  (exists c1, e1, e2, e3, e4, e5, e6) <;> rfl
                | true =>
                  rw [z6] at e6
                  (exists c1, e1, e2, e3, e4, e5, e6, e7) <;> rfl
  · have hb : setupB d = false := by
      unfold setupB
      split
      · exact absurd ⟨_, _, _, _, _, _, _, rfl⟩ h7
      · rfl
    rw [hb, eqW]
    unfold F_is_setup u_is_setup
    cases hp with
    | tup h =>
      rename_i ds
      have c1 : neD (.int (ds.length : Nat)) (.int 7) = some (.bl true) := nei_t fun q => by
        have : ds.length = 7 := by omega
        match ds, this with
        | [a, b, c, d', e, f, g], _ => exact h7 ⟨_, _, _, _, _, _, _, rfl⟩
      (exists c1) <;> rfl
    | _ => (exists rfl) <;> rfl
end K19

set_option maxHeartbeats 4000000
namespace K19
open PySem PySem.Spec PyProof.Rows L2 Pd Zd
local macro_rules
  | `(tactic| exists $es,*) => `(tactic| ((repeat (first | (refine Wx.st ?_) | (refine W1.st ?_) | ((with_reducible refine Gd.mk ?_ ?_); first | exact rfl | assumption | omega | decide | exact sm_l rfl | exact sm_r rfl | exact sm_lo (by omega) (by omega) | exact sm_ro (by omega) (by omega) | (simp only [List.length_cons, List.length_nil, List.length_map, List.length_append, List.length_range, List.length_replicate, rngL_len, rngD_len]; omega)) | ((with_reducible refine Br.t ?_ ?_); first | exact rfl | assumption | exact decide_eq_true (by omega) | exact nt_of (by omega)) | ((with_reducible refine Br.f ?_ ?_); first | exact rfl | assumption | exact decide_eq_false (by omega) | exact nf_of (by omega)) $[| ((with_reducible apply W.to); ((with_reducible apply $es) <;> first | assumption | omega | exact rfl))]* $[| ((with_reducible apply Wp.to); ((with_reducible apply $es) <;> first | assumption | omega | exact rfl))]* $[| ((with_reducible refine Br.t ?_ ?_); ((with_reducible apply $es) <;> first | assumption | omega | exact rfl))]* $[| ((with_reducible refine Br.f ?_ ?_); ((with_reducible apply $es) <;> first | assumption | omega | exact rfl))]* | ((with_reducible apply W.to); exact rfl) | (with_reducible refine Nxt.nx ?_) | (with_reducible refine Nxt.ct ?_) | (with_reducible refine Nxt.br ?_) | (with_reducible refine Nxt.rt ?_))); (try dsimp only [nset_s, nset_0, putS, frzS, nget_s, nget_0, setAll, wip, rst, nget_D, nmap_c, nmap_n, napp_c, napp_n, nrep_s, nrep_0]); (repeat (first | (refine Wx.st ?_) | (refine W1.st ?_) | ((with_reducible refine Gd.mk ?_ ?_); first | exact rfl | assumption | omega | decide | exact sm_l rfl | exact sm_r rfl | exact sm_lo (by omega) (by omega) | exact sm_ro (by omega) (by omega) | (simp only [List.length_cons, List.length_nil, List.length_map, List.length_append, List.length_range, List.length_replicate, rngL_len, rngD_len]; omega)) | ((with_reducible refine Br.t ?_ ?_); first | exact rfl | assumption | exact decide_eq_true (by omega) | exact nt_of (by omega)) | ((with_reducible refine Br.f ?_ ?_); first | exact rfl | assumption | exact decide_eq_false (by omega) | exact nf_of (by omega)) $[| ((with_reducible apply W.to); ((with_reducible apply $es) <;> first | assumption | omega | exact rfl))]* $[| ((with_reducible apply Wp.to); ((with_reducible apply $es) <;> first | assumption | omega | exact rfl))]* $[| ((with_reducible refine Br.t ?_ ?_); ((with_reducible apply $es) <;> first | assumption | omega | exact rfl))]* $[| ((with_reducible refine Br.f ?_ ?_); ((with_reducible apply $es) <;> first | assumption | omega | exact rfl))]* | ((with_reducible apply W.to); exact rfl) | (with_reducible refine Nxt.nx ?_) | (with_reducible refine Nxt.ct ?_) | (with_reducible refine Nxt.br ?_) | (with_reducible refine Nxt.rt ?_))); (try dsimp only [nset_s, nset_0, putS, frzS, nget_s, nget_0, setAll, wip, rst, nget_D, nmap_c, nmap_n, napp_c, napp_n, nrep_s, nrep_0])))
theorem rng_cases {x : D} (hp : Pln x) : (arB [(0, 9), (0, 9)] x = false ∧ rangeB x = false) ∨ ∃ i j, x = prD i j ∧ arB [(0, 9), (0, 9)] x = true ∧ rangeB x = decide (i ≤ j) := by
  cases z : arB [(0, 9), (0, 9)] x with
  | false =>
    refine .inl ⟨rfl, ?_⟩
    unfold rangeB
    split
    · rename_i a b
      have z : (isIntB 0 9 a && (isIntB 0 9 b && true)) = false := z
      rw [Bool.and_true] at z
      rw [z]; rfl
    · rfl
  | true =>
    cases hp with
    | tup h =>
      rename_i ds
      have hl := lvB_len z
      match ds, hl with
      | [a, b], _ =>
        have z : (isIntB 0 9 a && (isIntB 0 9 b && true)) = true := z
        rw [Bool.and_true] at z
        obtain ⟨z1, z2⟩ := Bool.and_eq_true_iff.mp z
        obtain ⟨i, rfl, _⟩ := isIntB_of z1
        obtain ⟨j, rfl, _⟩ := isIntB_of z2
        refine .inr ⟨i, j, rfl, rfl, ?_⟩
        show (isIntB 0 9 (.int i) && isIntB 0 9 (.int j) && leB (.int i) (.int j)) = _
        rw [z]; rfl
    | _ => cases z
theorem l_num {d : D} (hp : Pln d) {lo hi : Int} : F__law_is_number [d, .int lo, .int hi] = some (.bl (isIntB lo hi d)) := by
  rw [eqW]
  unfold F__law_is_number u__law_is_number
  cases hp with
  | int i =>
    by_cases h1 : lo ≤ i
    · exists rfl
      show D.bl (decide (i ≤ hi)) = .bl (decide (lo ≤ i) && decide (i ≤ hi))
      rw [decide_eq_true h1]; rfl
    · exists rfl
      show D.bl false = .bl (decide (lo ≤ i) && decide (i ≤ hi))
      rw [decide_eq_false h1]; rfl
  | _ => (exists rfl) <;> rfl
theorem l_are {d : D} (hp : Pln d) {rs : List (Int × Int)} (hr : rs.length ≤ 10) : F__law_are [d, loD rs, hiD rs] = some (.bl (arB rs d)) := by
  rw [eqW]
  unfold F__law_are u__law_are
  cases hp with
  | tup h =>
    rename_i ds
    by_cases hl : ds.length = rs.length
    · have c1 : neD (.int (ds.length : Nat)) (.int ((rs.map fun p => D.int p.1).length : Nat)) = some (.bl false) := nei_f (by rw [List.length_map]; omega)
      have hn : ((rs.map fun p => D.int p.1).length : Int).toNat = rs.length := by rw [List.length_map]; omega
      have hg : (-1000000000 : Int) ≤ ((rs.map fun p => D.int p.1).length : Nat) ∧ (((rs.map fun p => D.int p.1).length : Nat) : Int) ≤ 1000000000 := by rw [List.length_map]; omega
      exists c1
      refine lc_filter (fun x => match x with | .int k => !(isIntB (rs.getD k.toNat (0, 0)).1 (rs.getD k.toNat (0, 0)).2 (ds.getD k.toNat .non)) | _ => false) id ?_ ?_
      · intro x hx
        obtain ⟨q, hq⟩ := List.mem_iff_getElem?.mp hx
        obtain ⟨hk, rfl⟩ := rngL_at hq
        rw [hn] at hk
        have a1 : atI ds (0 + ((q : Nat) : Int)) = some (ds.getD q .non) := atI_of (k := q) (by omega) (by rw [List.getD_eq_getElem?_getD, List.getElem?_eq_getElem (by omega)]; rfl)
        have a2 : atI (rs.map fun p => D.int p.1) (0 + ((q : Nat) : Int)) = some (.int (rs.getD q (0, 0)).1) := atI_of (k := q) (by omega) (by rw [List.getElem?_map, List.getD_eq_getElem?_getD, List.getElem?_eq_getElem hk]; rfl)
        have a3 : atI (rs.map fun p => D.int p.2) (0 + ((q : Nat) : Int)) = some (.int (rs.getD q (0, 0)).2) := atI_of (k := q) (by omega) (by rw [List.getElem?_map, List.getD_eq_getElem?_getD, List.getElem?_eq_getElem hk]; rfl)
        have hd : Pln (ds.getD q .non) := h _ (by rw [List.getD_eq_getElem?_getD, List.getElem?_eq_getElem (by omega)]; exact List.getElem_mem _)
        have ee := l_num hd (lo := (rs.getD q (0, 0)).1) (hi := (rs.getD q (0, 0)).2)
        have ht : (0 + ((q : Nat) : Int)).toNat = q := by omega
        dsimp only
        rw [ht]
        cases z : isIntB (rs.getD q (0, 0)).1 (rs.getD q (0, 0)).2 (ds.getD q .non) with
        | true =>
          rw [z] at ee
          exists a1, a2, a3, ee
          exact ⟨rfl, rfl, fun h => by cases h⟩
        | false =>
          rw [z] at ee
          exists a1, a2, a3, ee
          exact ⟨rfl, rfl, fun _ => by exists rfl; exact ⟨rfl, rfl⟩⟩
      · rw [List.map_id]
        exists rfl
        show D.bl _ = .bl (lvB rs ds)
        rw [lvB_at hl, hn]
        congr 1
        unfold rngL
        rw [List.filter_map, List.isEmpty_map]
        congr 1
        refine List.filter_congr fun k _ => ?_
        have ht : (0 + ((k : Nat) : Int)).toNat = k := by omega
        show (!(isIntB (rs.getD (0 + ((k : Nat) : Int)).toNat (0, 0)).1 _ _)) = _
        rw [ht]
    · have c1 : neD (.int (ds.length : Nat)) (.int ((rs.map fun p => D.int p.1).length : Nat)) = some (.bl true) := nei_t (by rw [List.length_map]; omega)
      exists c1
      show D.bl false = .bl (lvB rs ds)
      rw [lvB_ne hl]
  | _ => (exists rfl) <;> rfl
theorem l_choice {d : D} (hp : Pln d) {m : Int} : F__law_choice [d, .int m] = some (.bl (chB m d)) := by
  have e1 : F__law_are [d, .tup [.int 1], .tup [.int m]] = some (.bl (arB [(1, m)] d)) := l_are hp (rs := [(1, m)]) (by simp)
  have e2 : F__law_are [d, .tup [.int 1, .int 1], .tup [.int m, .int m]] = some (.bl (arB [(1, m), (1, m)] d)) := l_are hp (rs := [(1, m), (1, m)]) (by simp)
  rw [eqW]
  unfold F__law_choice u__law_choice
  cases z1 : arB [(1, m)] d with
  | true =>
    rw [z1] at e1
    cases hp with
    | tup h =>
      rename_i ds
      have hl := lvB_len z1
      match ds, hl with
      | [a], _ =>
        have z1 : (isIntB 1 m a && true) = true := z1
        rw [Bool.and_true] at z1
        show W _ fun x => x = D.bl (isIntB 1 m a)
        rw [z1]
        (exists e1, eqi_t (x := 1) (y := 1) rfl) <;> rfl
    | _ => cases z1
  | false =>
    rw [z1] at e1
    cases z2 : arB [(1, m), (1, m)] d with
    | true =>
      rw [z2] at e2
      cases hp with
      | tup h =>
        rename_i ds
        have hl := lvB_len z2
        match ds, hl with
        | [a, b], _ =>
          have z : (isIntB 1 m a && (isIntB 1 m b && true)) = true := z2
          rw [Bool.and_true] at z
          obtain ⟨y1, y2⟩ := Bool.and_eq_true_iff.mp z
          obtain ⟨i, rfl, _⟩ := isIntB_of y1
          obtain ⟨j, rfl, _⟩ := isIntB_of y2
          show W _ fun x => x = D.bl (isIntB 1 m (.int i) && isIntB 1 m (.int j) && ltB (.int i) (.int j))
          rw [z]
          (exists e1, e2, eqi_f (x := 2) (y := 1) (by decide)) <;> rfl
      | _ => cases z2
    | false =>
      rw [z2] at e2
      have hc : chB m d = false := by
        unfold chB
        split
        · rename_i a
          have z1 : (isIntB 1 m a && true) = false := z1
          rwa [Bool.and_true] at z1
        · rename_i a b
          have z : (isIntB 1 m a && (isIntB 1 m b && true)) = false := z2
          rw [Bool.and_true] at z
          rw [z]; rfl
        · rfl
      rw [hc]
      (exists e1, e2) <;> rfl
theorem l_setup {d : D} (hp : Pln d) : F__law_due_setup [d] = some (.bl (setupB d)) := by
  by_cases h7 : ∃ a b c d' e f g, d = .tup [a, b, c, d', e, f, g]
  · obtain ⟨a, b, c, d', e, f, g, rfl⟩ := h7
    cases hp with
    | tup h =>
      have e1 := l_num (h a (by simp)) (lo := 1) (hi := 4)
      have e3 : F__law_are [c, .tup [.int 1, .int 0], .tup [.int 2, .int 2]] = some (.bl (arB [(1, 2), (0, 2)] c)) := l_are (h c (by simp)) (rs := [(1, 2), (0, 2)]) (by decide)
      have e4 : F__law_are [d', .tup [.int 0, .int 0], .tup [.int 1, .int 2]] = some (.bl (arB [(0, 1), (0, 2)] d')) := l_are (h d' (by simp)) (rs := [(0, 1), (0, 2)]) (by decide)
      have e5 := l_choice (h e (by simp)) (m := 4)
      have e6 := l_num (h f (by simp)) (lo := 1) (hi := 3)
      have e7 : F__law_are [g, .tup [.int 0, .int 0, .int 0, .int 0], .tup [.int 5, .int 5, .int 5, .int 5]] = some (.bl (arB [(0, 5), (0, 5), (0, 5), (0, 5)] g)) := l_are (h g (by simp)) (rs := [(0, 5), (0, 5), (0, 5), (0, 5)]) (by decide)
      have c1 : neD (.int ([a, b, c, d', e, f, g].length : Nat)) (.int 7) = some (.bl false) := nei_f rfl
      rw [eqW]
      show W _ fun x => x = D.bl (isIntB 1 4 a && (chA a b && (arB [(1, 2), (0, 2)] c && (arB [(0, 1), (0, 2)] d' && (chB 4 e && (isIntB 1 3 f && arB [(0, 5), (0, 5), (0, 5), (0, 5)] g))))))
      unfold F__law_due_setup u__law_due_setup
      cases z1 : isIntB 1 4 a with
      | false =>
        rw [z1] at e1
        (exists c1, e1) <;> rfl
      | true =>
        rw [z1] at e1
        obtain ⟨i, rfl, _⟩ := isIntB_of z1
        have e2 := l_choice (h b (by simp)) (m := i)
        show W _ fun x => x = D.bl (true && (chB i b && (arB [(1, 2), (0, 2)] c && (arB [(0, 1), (0, 2)] d' && (chB 4 e && (isIntB 1 3 f && arB [(0, 5), (0, 5), (0, 5), (0, 5)] g))))))
        cases z2 : chB i b with
        | false =>
          rw [z2] at e2
          (exists c1, e1, e2) <;> rfl
        | true =>
          rw [z2] at e2
          cases z3 : arB [(1, 2), (0, 2)] c with
          | false =>
            rw [z3] at e3
            (exists c1, e1, e2, e3) <;> rfl
          | true =>
            rw [z3] at e3
            cases z4 : arB [(0, 1), (0, 2)] d' with
            | false =>
              rw [z4] at e4
              (exists c1, e1, e2, e3, e4) <;> rfl
            | true =>
              rw [z4] at e4
              cases z5 : chB 4 e with
              | false =>
                rw [z5] at e5
                (exists c1, e1, e2, e3, e4, e5) <;> rfl
              | true =>
                rw [z5] at e5
                cases z6 : isIntB 1 3 f with
                | false =>
                  rw [z6] at e6
                  (exists c1, e1, e2, e3, e4, e5, e6) <;> rfl
                | true =>
                  rw [z6] at e6
                  (exists c1, e1, e2, e3, e4, e5, e6, e7) <;> rfl
  · have hb : setupB d = false := by
      unfold setupB
      split
      · exact absurd ⟨_, _, _, _, _, _, _, rfl⟩ h7
      · rfl
    rw [hb, eqW]
    unfold F__law_due_setup u__law_due_setup
    cases hp with
    | tup h =>
      rename_i ds
      have c1 : neD (.int (ds.length : Nat)) (.int 7) = some (.bl true) := nei_t fun q => by
        have : ds.length = 7 := by omega
        match ds, this with
        | [a, b, c, d', e, f, g], _ => exact h7 ⟨_, _, _, _, _, _, _, rfl⟩
      (exists c1) <;> rfl
    | _ => (exists rfl) <;> rfl
theorem l_row {d : D} (hp : Pln d) : F__law_due_row [d] = some (.bl (rowB seatDeeds d)) := by
  by_cases h7 : ∃ m a b c d' e n, d = .tup [m, a, b, c, d', e, n]
  · obtain ⟨m, a, b, c, d', e, n, rfl⟩ := h7
    cases hp with
    | tup h =>
      have c1 : neD (.int ([m, a, b, c, d', e, n].length : Nat)) (.int 7) = some (.bl false) := nei_f rfl
      rw [eqW]
      show W _ fun x => x = D.bl (isIntB 0 2 m && isIntB 0 2 n && strInB seatDeeds e && (rangeB a && (rangeB b && (rangeB c && rangeB d'))))
      unfold F__law_due_row u__law_due_row
      exists c1
      refine for_inv (fun k Γ => (∃ j, Γ = [.val (.tup [m, a, b, c, d', e, n]), j]) ∧ (0 < k → rangeB a = true) ∧ (1 < k → rangeB b = true) ∧ (2 < k → rangeB c = true) ∧ (3 < k → rangeB d' = true)) ⟨⟨_, rfl⟩, by omega, by omega, by omega, by omega⟩ ?_ ?_
      · rintro k x Γ hx ⟨⟨j, rfl⟩, i0, i1, i2, i3⟩
        have hk : k = 0 ∨ k = 1 ∨ k = 2 ∨ k = 3 := by
          have := (List.getElem?_eq_some_iff.mp hx).1
          simp only [List.length_cons, List.length_nil] at this
          omega
        rcases hk with rfl | rfl | rfl | rfl
        · cases hx
          have e1 : F__law_are [a, .tup [.int 0, .int 0], .tup [.int 9, .int 9]] = some (.bl (arB [(0, 9), (0, 9)] a)) := l_are (h a (by simp)) (rs := [(0, 9), (0, 9)]) (by decide)
          rcases rng_cases (h a (by simp)) with ⟨z1, z2⟩ | ⟨i, j, rfl, z1, z2⟩
          · rw [z1] at e1
            exists e1
            show D.bl false = _
            simp [z2]
          · rw [z1] at e1
            by_cases hij : i ≤ j
            · rw [decide_eq_true hij] at z2
              exists e1
              exact ⟨⟨_, rfl⟩, fun _ => z2, by omega, by omega, by omega⟩
            · rw [decide_eq_false hij] at z2
              exists e1
              show D.bl false = _
              simp [z2]
        · cases hx
          have e1 : F__law_are [b, .tup [.int 0, .int 0], .tup [.int 9, .int 9]] = some (.bl (arB [(0, 9), (0, 9)] b)) := l_are (h b (by simp)) (rs := [(0, 9), (0, 9)]) (by decide)
          rcases rng_cases (h b (by simp)) with ⟨z1, z2⟩ | ⟨i, j, rfl, z1, z2⟩
          · rw [z1] at e1
            exists e1
            show D.bl false = _
            simp [z2]
          · rw [z1] at e1
            by_cases hij : i ≤ j
            · rw [decide_eq_true hij] at z2
              exists e1
              exact ⟨⟨_, rfl⟩, fun _ => i0 (by omega), fun _ => z2, by omega, by omega⟩
            · rw [decide_eq_false hij] at z2
              exists e1
              show D.bl false = _
              simp [z2]
        · cases hx
          have e1 : F__law_are [c, .tup [.int 0, .int 0], .tup [.int 9, .int 9]] = some (.bl (arB [(0, 9), (0, 9)] c)) := l_are (h c (by simp)) (rs := [(0, 9), (0, 9)]) (by decide)
          rcases rng_cases (h c (by simp)) with ⟨z1, z2⟩ | ⟨i, j, rfl, z1, z2⟩
          · rw [z1] at e1
            exists e1
            show D.bl false = _
            simp [z2]
          · rw [z1] at e1
            by_cases hij : i ≤ j
            · rw [decide_eq_true hij] at z2
              exists e1
              exact ⟨⟨_, rfl⟩, fun _ => i0 (by omega), fun _ => i1 (by omega), fun _ => z2, by omega⟩
            · rw [decide_eq_false hij] at z2
              exists e1
              show D.bl false = _
              simp [z2]
        · cases hx
          have e1 : F__law_are [d', .tup [.int 0, .int 0], .tup [.int 9, .int 9]] = some (.bl (arB [(0, 9), (0, 9)] d')) := l_are (h d' (by simp)) (rs := [(0, 9), (0, 9)]) (by decide)
          rcases rng_cases (h d' (by simp)) with ⟨z1, z2⟩ | ⟨i, j, rfl, z1, z2⟩
          · rw [z1] at e1
            exists e1
            show D.bl false = _
            simp [z2]
          · rw [z1] at e1
            by_cases hij : i ≤ j
            · rw [decide_eq_true hij] at z2
              exists e1
              exact ⟨⟨_, rfl⟩, fun _ => i0 (by omega), fun _ => i1 (by omega), fun _ => i2 (by omega), fun _ => z2⟩
            · rw [decide_eq_false hij] at z2
              exists e1
              show D.bl false = _
              simp [z2]
      · rintro Γ ⟨⟨j, rfl⟩, i0, i1, i2, i3⟩
        have r0 := i0 (by decide)
        have r1 := i1 (by decide)
        have r2 := i2 (by decide)
        have r3 := i3 (by decide)
        rw [r0, r1, r2, r3]
        have e1 := l_num (h m (by simp)) (lo := 0) (hi := 2)
        have e2 := l_num (h n (by simp)) (lo := 0) (hi := 2)
        cases z1 : isIntB 0 2 m with
        | false =>
          rw [z1] at e1
          (exists e1) <;> rfl
        | true =>
          rw [z1] at e1
          cases z2 : isIntB 0 2 n with
          | false =>
            rw [z2] at e2
            (exists e1, e2) <;> rfl
          | true =>
            rw [z2] at e2
            have he := h e (by simp)
            cases he with
            | str x =>
              have e3 : inD (.str x) (.lst [.str "group", .str "single", .str "go"]) = some (.bl (decide (x ∈ seatDeeds))) := inD_strs (l := seatDeeds)
              exists e1, e2, e3
              show D.bl (decide (x ∈ seatDeeds)) = .bl (true && true && decide (x ∈ seatDeeds) && (true && (true && (true && true))))
              cases decide (x ∈ seatDeeds) <;> rfl
            | _ => (exists e1, e2) <;> rfl
  · have hb : rowB seatDeeds d = false := by
      unfold rowB
      split
      · exact absurd ⟨_, _, _, _, _, _, _, rfl⟩ h7
      · rfl
    rw [hb, eqW]
    unfold F__law_due_row u__law_due_row
    cases hp with
    | tup h =>
      rename_i ds
      have c1 : neD (.int (ds.length : Nat)) (.int 7) = some (.bl true) := nei_t fun q => by
        have : ds.length = 7 := by omega
        match ds, this with
        | [m, a, b, c, d', e, n], _ => exact h7 ⟨_, _, _, _, _, _, _, rfl⟩
      (exists c1) <;> rfl
    | _ => (exists rfl) <;> rfl
theorem l_seats {d : D} (hp : Pln d) : F__law_due_seats [d] = some (.bl (ruleB seatDeeds d)) := by
  rw [eqW]
  unfold F__law_due_seats u__law_due_seats
  cases hp with
  | tup h =>
    rename_i ds
    show W _ fun x => x = D.bl (decide (ds.length ≤ 6) && ds.all (rowB seatDeeds))
    by_cases hl : ds.length ≤ 6
    · have c1 : leD (.int (ds.length : Nat)) (.int 6) = some (.bl true) := by
        show some (D.bl (decide _)) = _
        rw [decide_eq_true (by omega)]
      rw [decide_eq_true hl]
      exists c1
      refine lc_filter (fun x => !rowB seatDeeds x) id ?_ ?_
      · intro x hx
        have ee := l_row (h x hx)
        cases z : rowB seatDeeds x with
        | true =>
          rw [z] at ee
          exists ee
          exact ⟨rfl, rfl, fun h => by cases h⟩
        | false =>
          rw [z] at ee
          exists ee
          exact ⟨rfl, rfl, fun _ => by exists rfl; exact ⟨rfl, rfl⟩⟩
      · rw [List.map_id]
        exists rfl
        show D.bl _ = .bl (true && ds.all (rowB seatDeeds))
        rw [Bool.true_and]
        congr 1
        cases z : ds.all (rowB seatDeeds) with
        | true =>
          rw [List.isEmpty_iff, List.filter_eq_nil_iff]
          intro a ha
          simp [List.all_eq_true.mp z a ha]
        | false =>
          cases z2 : (ds.filter fun x => !rowB seatDeeds x).isEmpty with
          | false => rfl
          | true =>
            rw [List.isEmpty_iff, List.filter_eq_nil_iff] at z2
            rw [List.all_eq_true.mpr fun x hx => by simpa using z2 x hx] at z
            cases z
    · have c1 : leD (.int (ds.length : Nat)) (.int 6) = some (.bl false) := by
        show some (D.bl (decide _)) = _
        rw [decide_eq_false (by omega)]
      rw [decide_eq_false hl]
      (exists c1) <;> rfl
  | _ => (exists rfl) <;> rfl
end K19

set_option maxHeartbeats 4000000
namespace K19
open PySem PySem.Spec PyProof.Rows L2 Pd Zd
local macro_rules
  | `(tactic| exists $es,*) => `(tactic| ((repeat (first | (refine Wx.st ?_) | (refine W1.st ?_) | ((with_reducible refine Gd.mk ?_ ?_); first | exact rfl | assumption | omega | decide | exact sm_l rfl | exact sm_r rfl | exact sm_lo (by omega) (by omega) | exact sm_ro (by omega) (by omega) | (simp only [List.length_cons, List.length_nil, List.length_map, List.length_append, List.length_range, List.length_replicate, rngL_len, rngD_len]; omega)) | ((with_reducible refine Br.t ?_ ?_); first | exact rfl | assumption | exact decide_eq_true (by omega) | exact nt_of (by omega)) | ((with_reducible refine Br.f ?_ ?_); first | exact rfl | assumption | exact decide_eq_false (by omega) | exact nf_of (by omega)) $[| ((with_reducible apply W.to); ((with_reducible apply $es) <;> first | assumption | omega | exact rfl))]* $[| ((with_reducible apply Wp.to); ((with_reducible apply $es) <;> first | assumption | omega | exact rfl))]* $[| ((with_reducible refine Br.t ?_ ?_); ((with_reducible apply $es) <;> first | assumption | omega | exact rfl))]* $[| ((with_reducible refine Br.f ?_ ?_); ((with_reducible apply $es) <;> first | assumption | omega | exact rfl))]* | ((with_reducible apply W.to); exact rfl) | (with_reducible refine Nxt.nx ?_) | (with_reducible refine Nxt.ct ?_) | (with_reducible refine Nxt.br ?_) | (with_reducible refine Nxt.rt ?_))); (try dsimp only [nset_s, nset_0, putS, frzS, nget_s, nget_0, setAll, wip, rst, nget_D, nmap_c, nmap_n, napp_c, napp_n, nrep_s, nrep_0]); (repeat (first | (refine Wx.st ?_) | (refine W1.st ?_) | ((with_reducible refine Gd.mk ?_ ?_); first | exact rfl | assumption | omega | decide | exact sm_l rfl | exact sm_r rfl | exact sm_lo (by omega) (by omega) | exact sm_ro (by omega) (by omega) | (simp only [List.length_cons, List.length_nil, List.length_map, List.length_append, List.length_range, List.length_replicate, rngL_len, rngD_len]; omega)) | ((with_reducible refine Br.t ?_ ?_); first | exact rfl | assumption | exact decide_eq_true (by omega) | exact nt_of (by omega)) | ((with_reducible refine Br.f ?_ ?_); first | exact rfl | assumption | exact decide_eq_false (by omega) | exact nf_of (by omega)) $[| ((with_reducible apply W.to); ((with_reducible apply $es) <;> first | assumption | omega | exact rfl))]* $[| ((with_reducible apply Wp.to); ((with_reducible apply $es) <;> first | assumption | omega | exact rfl))]* $[| ((with_reducible refine Br.t ?_ ?_); ((with_reducible apply $es) <;> first | assumption | omega | exact rfl))]* $[| ((with_reducible refine Br.f ?_ ?_); ((with_reducible apply $es) <;> first | assumption | omega | exact rfl))]* | ((with_reducible apply W.to); exact rfl) | (with_reducible refine Nxt.nx ?_) | (with_reducible refine Nxt.ct ?_) | (with_reducible refine Nxt.br ?_) | (with_reducible refine Nxt.rt ?_))); (try dsimp only [nset_s, nset_0, putS, frzS, nget_s, nget_0, setAll, wip, rst, nget_D, nmap_c, nmap_n, napp_c, napp_n, nrep_s, nrep_0])))
abbrev oddL : List D := [D.bl true, .bl false, .int (-1), .int 0, .int 1, .int 2, .int 3, .int 5, .int 6, .int 10, .int (10 ^ Int.toNat 30), .non, .str "", .str "0", .str "group", .str "single", .str "Go", .str "go", .tup [], .lst [], .dct [], .tup [.int 0], .tup [.int 1, .int 2], .tup [.int 2, .int 1], .tup [.int 2, .int 2], .lst [.int 1, .int 2], .tup [.int 0, .int 9], .tup [.int 0, .int 10], .tup [.int (-1), .int 3], .tup [.int 3, .int 0], .tup [.bl true, .int 9], .tup [.int 1, .int 2, .int 3], .tup [.int 4], .tup [.int 5], .str "small"]
theorem odd_all : ∀ z ∈ oddL, Bnt 1 z := Al.all (P := Bnt 1)
  (.cons (bt_bl _) (.cons (bt_bl _) (.cons (bt_int (by decide) (by decide)) (.cons (bt_int (by decide) (by decide)) (.cons (bt_int (by decide) (by decide)) (.cons (bt_int (by decide) (by decide)) (.cons (bt_int (by decide) (by decide)) (.cons (bt_int (by decide) (by decide)) (.cons (bt_int (by decide) (by decide)) (.cons (bt_int (by decide) (by decide)) (.cons (bt_int (by decide) (by decide)) (.cons (bt_non) (.cons (bt_str (by decide +kernel)) (.cons (bt_str (by decide +kernel)) (.cons (bt_str (by decide +kernel)) (.cons (bt_str (by decide +kernel)) (.cons (bt_str (by decide +kernel)) (.cons (bt_str (by decide +kernel)) (.cons (bt_tup (Al.nil (P := Tl 0)).all (by decide)) (.cons (bt_lst (Al.nil (P := Tl 0)).all (by decide)) (.cons (bt_dct0) (.cons (bt_tup (show Al (Tl 0) _ from (.cons (.int (by decide) (by decide)) .nil)).all (by decide)) (.cons (bt_tup (show Al (Tl 0) _ from (.cons (.int (by decide) (by decide)) (.cons (.int (by decide) (by decide)) .nil))).all (by decide)) (.cons (bt_tup (show Al (Tl 0) _ from (.cons (.int (by decide) (by decide)) (.cons (.int (by decide) (by decide)) .nil))).all (by decide)) (.cons (bt_tup (show Al (Tl 0) _ from (.cons (.int (by decide) (by decide)) (.cons (.int (by decide) (by decide)) .nil))).all (by decide)) (.cons (bt_lst (show Al (Tl 0) _ from (.cons (.int (by decide) (by decide)) (.cons (.int (by decide) (by decide)) .nil))).all (by decide)) (.cons (bt_tup (show Al (Tl 0) _ from (.cons (.int (by decide) (by decide)) (.cons (.int (by decide) (by decide)) .nil))).all (by decide)) (.cons (bt_tup (show Al (Tl 0) _ from (.cons (.int (by decide) (by decide)) (.cons (.int (by decide) (by decide)) .nil))).all (by decide)) (.cons (bt_tup (show Al (Tl 0) _ from (.cons (.int (by decide) (by decide)) (.cons (.int (by decide) (by decide)) .nil))).all (by decide)) (.cons (bt_tup (show Al (Tl 0) _ from (.cons (.int (by decide) (by decide)) (.cons (.int (by decide) (by decide)) .nil))).all (by decide)) (.cons (bt_blp (by decide) (by decide)) (.cons (bt_tup (show Al (Tl 0) _ from (.cons (.int (by decide) (by decide)) (.cons (.int (by decide) (by decide)) (.cons (.int (by decide) (by decide)) .nil)))).all (by decide)) (.cons (bt_tup (show Al (Tl 0) _ from (.cons (.int (by decide) (by decide)) .nil)).all (by decide)) (.cons (bt_tup (show Al (Tl 0) _ from (.cons (.int (by decide) (by decide)) .nil)).all (by decide)) (.cons (bt_str (by decide +kernel)) .nil)))))))))))))))))))))))))))))))))))
theorem m_odd {n : Int} {d : D} (h : Dk n d) (hn : n < 100000000) : ∃ x d', F__law_odd d [] = some (x, d') ∧ Bnt 1 x ∧ Dk (n + 1) d' := by
  suffices h : Wp (F__law_odd d []) (fun x d' => Bnt 1 x ∧ Dk (n + 1) d') by
    obtain ⟨x, d', e, h⟩ := h
    exact ⟨x, d', e, h⟩
  obtain ⟨v, d0, e0, v1, v2, k0⟩ := m_draw (m := ((oddL.length : Nat) : Int)) h (by omega) (by decide) (by decide)
  obtain ⟨x, f0, hx⟩ := at_pick (Bnt 1) odd_all v1 v2
  unfold F__law_odd u__law_odd
  exists e0, f0
  exact ⟨hx, k0⟩
theorem runB_r {k : Nat} {d : D} {ds : List D} {Q : D → D → Prop} (h : Wp (runB 2 6 .rest (u__law_bent (F__law_bent__R k)) d ds) Q) : Wp (F__law_bent__R (k + 1) d ds) Q := h
theorem m_bent : ∀ (k n : Nat) {N : Int} {d x : D}, n < k → Tl n x → n ≤ 3 → Dk N d → N + 10 * k < 100000000 → ∃ y d', F__law_bent__R k d [x] = some (y, d') ∧ Bnt (n + 1) y ∧ Dk (N + 10 * k) d'
  | 0, _, _, _, _, h, _, _, _, _ => absurd h (Nat.not_lt_zero _)
  | k + 1, n, N, d, x, hk, hx, hn, hd, hN => by
    suffices h : Wp (F__law_bent__R (k + 1) d [x]) (fun y d' => Bnt (n + 1) y ∧ Dk (N + 10 * (k + 1 : Nat)) d') by
      obtain ⟨y, d', e, h⟩ := h
      exact ⟨y, d', e, h⟩
    apply runB_r
    have mono : ∀ {M : Int} {d'}, Dk M d' → M ≤ N + 10 → Dk (N + 10 * (k + 1 : Nat)) d' := fun h hM => h.mono (by omega)
    obtain ⟨w, d1, e1, w1, w2, k1⟩ := m_draw (m := 5) hd (by omega) (by omega) (by omega)
    obtain ⟨od, d2, e2, hod, k2⟩ := m_odd k1 (by omega)
    have hod := hod.mono (m := n + 1) (by omega)
    unfold u__law_bent
    cases hx with
    | int h1 h2 =>
      rename_i i
      by_cases hw : w < 2
      · have : w = 0 ∨ w = 1 := by omega
        obtain ⟨y, f1, hy⟩ := at_pick (xs := [D.int (i + 1), D.int (i - 1)]) (v := w) (Bnt (n + 1)) (Al.cons (bt_int (by omega) (by omega)) (.cons (bt_int (by omega) (by omega)) .nil)).all w1 (by show w < 2; exact hw)
        have c1 : ltD (.int w) (.int 2) = some (.bl true) := by show some (D.bl (decide _)) = _; rw [decide_eq_true hw]
        exists e1, c1, f1
        exact ⟨hy, mono k1 (by omega)⟩
      · have c1 : ltD (.int w) (.int 2) = some (.bl false) := by show some (D.bl (decide _)) = _; rw [decide_eq_false hw]
        exists e1, c1, e2
        exact ⟨hod, mono k2 (by omega)⟩
    | str h1 =>
      exists e1, e2
      exact ⟨hod, mono k2 (by omega)⟩
    | tup h hl =>
      rename_i n ds
      rcases ds with _ | ⟨a, l⟩
      · have c0 : eqD (.int (([] : List D).length : Nat)) (.int 0) = some (.bl true) := eqi_t rfl
        have c2 : gtD (.int (([] : List D).length : Nat)) (.int 0) = some (.bl false) := rfl
        exists c0, e1, c2, e2
        exact ⟨hod, mono k2 (by omega)⟩
      · have hpos : 0 < (a :: l).length := Nat.succ_pos _
        generalize (a :: l) = ds at h hl hpos
        have c0 : eqD (.int (ds.length : Nat)) (.int 0) = some (.bl false) := eqi_f (by omega)
        obtain ⟨v, d0, e0, v1, v2, k0⟩ := m_draw (m := 4) hd (by omega) (by omega) (by omega)
        by_cases hv : v = 0
        · obtain ⟨w, d1, e1, w1, w2, k1⟩ := m_draw (m := 5) k0 (by omega) (by omega) (by omega)
          obtain ⟨od, d2, e2, hod, k2⟩ := m_odd k1 (by omega)
          have hod := hod.mono (m := n + 1 + 1) (by omega)
          have c2 : gtD (.int (ds.length : Nat)) (.int 0) = some (.bl true) := by show some (D.bl (decide _)) = _; rw [decide_eq_true (by omega)]
          have hg : (ds ++ cutL ds none (some 1)).length ≤ 14 := by have := cutL_one ds; rw [List.length_append]; omega
          have hg2 : ds.length + (cutL ds none (some 1)).length ≤ 10000000 := by have := cutL_one ds; omega
          by_cases hw : w < 4
          · have c1 : ltD (.int w) (.int 4) = some (.bl true) := by show some (D.bl (decide _)) = _; rw [decide_eq_true hw]
            obtain ⟨y, f1, hy⟩ := at_pick (xs := [.tup (cutL ds (some 1) none), .tup (cutL ds none (some (-1))), .tup (ds ++ cutL ds none (some 1)), .lst ds]) (v := w) (Bnt (n + 1 + 1)) (Al.cons ((bt_tup (fun d hd => h d (cutL_mem hd)) (Nat.le_trans (cutL_len _ _ _) (by omega))).mono (Nat.le_succ _)) (.cons ((bt_tup (fun d hd => h d (cutL_mem hd)) (Nat.le_trans (cutL_len _ _ _) (by omega))).mono (Nat.le_succ _)) (.cons ((bt_tup (fun d hd => by
              rcases List.mem_append.mp hd with hd | hd
              · exact h d hd
              · exact h d (cutL_mem hd)) hg).mono (Nat.le_succ _)) (.cons ((bt_lst h (by omega)).mono (Nat.le_succ _)) .nil)))).all w1 (by show w < 4; exact hw)
            exists c0, e0, eqi_t hv, e1, c2, c1, f1
            exact ⟨hy, mono k1 (by omega)⟩
          · have c1 : ltD (.int w) (.int 4) = some (.bl false) := by show some (D.bl (decide _)) = _; rw [decide_eq_false hw]
            exists c0, e0, eqi_t hv, e1, c2, c1, e2
            exact ⟨hod, mono k2 (by omega)⟩
        · obtain ⟨p, d3, e3, p1, p2, k3⟩ := m_draw (m := (ds.length : Nat)) k0 (by omega) (by omega) (by omega)
          obtain ⟨u, d4, e4, u1, u2, k4⟩ := m_draw (m := 8) k3 (by omega) (by omega) (by omega)
          obtain ⟨y2, g2, hy2⟩ := at_pick (xs := ds) (v := p) (Tl n) h p1 p2
          by_cases hu : u = 0
          · obtain ⟨q, d5, e5, q1, q2, k5⟩ := m_draw (m := (ds.length : Nat)) k4 (by omega) (by omega) (by omega)
            obtain ⟨y1, g1, hy1⟩ := at_pick (xs := ds) (v := q) (Tl n) h q1 q2
            have i1 : ixN ds.length p = some p.toNat := ixN_of p1 p2
            have i2 : ixN (ds.set p.toNat y1).length q = some q.toNat := ixN_of q1 (by rw [List.length_set]; exact q2)
            exists c0, e0, eqi_f hv, e3, e4, eqi_t hu, e5, g1, g2, i1, i2
            refine ⟨(bt_tup (ds := (ds.set p.toNat y1).set q.toNat y2) (fun d hd => ?_) (by rw [List.length_set, List.length_set]; omega)).mono (Nat.le_succ _), mono k5 (by omega)⟩
            rcases List.mem_or_eq_of_mem_set hd with hd | rfl
            · rcases List.mem_or_eq_of_mem_set hd with hd | rfl
              · exact h d hd
              · exact hy1
            · exact hy2
          · obtain ⟨z, d9, e9, hz, k9⟩ := m_bent k n (by omega) hy2 (by omega) k4 (by omega)
            have hs := cutL_sum p1 p2
            have hg1 : (cutL ds none (some p)).length + [z].length ≤ 10000000 := by rw [List.length_singleton]; omega
            have hg2 : (cutL ds none (some p) ++ [z]).length + (cutL ds (some (p + 1)) none).length ≤ 10000000 := by rw [List.length_append, List.length_singleton]; omega
            exists c0, e0, eqi_f hv, e3, e4, eqi_f hu, g2, e9
            exact ⟨bt_mid (fun d hd => h d (cutL_mem hd)) (fun d hd => h d (cutL_mem hd)) hz (by omega), k9.mono (by omega)⟩
end K19

set_option maxHeartbeats 4000000
namespace K19
open PySem PySem.Spec PyProof.Rows L2 Pd Zd
local macro_rules
  | `(tactic| exists $es,*) => `(tactic| ((repeat (first | (refine Wx.st ?_) | (refine W1.st ?_) | ((with_reducible refine Gd.mk ?_ ?_); first | exact rfl | assumption | omega | decide | exact sm_l rfl | exact sm_r rfl | exact sm_lo (by omega) (by omega) | exact sm_ro (by omega) (by omega) | (simp only [List.length_cons, List.length_nil, List.length_map, List.length_append, List.length_range, List.length_replicate, rngL_len, rngD_len]; omega)) | ((with_reducible refine Br.t ?_ ?_); first | exact rfl | assumption | exact decide_eq_true (by omega) | exact nt_of (by omega)) | ((with_reducible refine Br.f ?_ ?_); first | exact rfl | assumption | exact decide_eq_false (by omega) | exact nf_of (by omega)) $[| ((with_reducible apply W.to); ((with_reducible apply $es) <;> first | assumption | omega | exact rfl))]* $[| ((with_reducible apply Wp.to); ((with_reducible apply $es) <;> first | assumption | omega | exact rfl))]* $[| ((with_reducible refine Br.t ?_ ?_); ((with_reducible apply $es) <;> first | assumption | omega | exact rfl))]* $[| ((with_reducible refine Br.f ?_ ?_); ((with_reducible apply $es) <;> first | assumption | omega | exact rfl))]* | ((with_reducible apply W.to); exact rfl) | (with_reducible refine Nxt.nx ?_) | (with_reducible refine Nxt.ct ?_) | (with_reducible refine Nxt.br ?_) | (with_reducible refine Nxt.rt ?_))); (try dsimp only [nset_s, nset_0, putS, frzS, nget_s, nget_0, setAll, wip, rst, nget_D, nmap_c, nmap_n, napp_c, napp_n, nrep_s, nrep_0]); (repeat (first | (refine Wx.st ?_) | (refine W1.st ?_) | ((with_reducible refine Gd.mk ?_ ?_); first | exact rfl | assumption | omega | decide | exact sm_l rfl | exact sm_r rfl | exact sm_lo (by omega) (by omega) | exact sm_ro (by omega) (by omega) | (simp only [List.length_cons, List.length_nil, List.length_map, List.length_append, List.length_range, List.length_replicate, rngL_len, rngD_len]; omega)) | ((with_reducible refine Br.t ?_ ?_); first | exact rfl | assumption | exact decide_eq_true (by omega) | exact nt_of (by omega)) | ((with_reducible refine Br.f ?_ ?_); first | exact rfl | assumption | exact decide_eq_false (by omega) | exact nf_of (by omega)) $[| ((with_reducible apply W.to); ((with_reducible apply $es) <;> first | assumption | omega | exact rfl))]* $[| ((with_reducible apply Wp.to); ((with_reducible apply $es) <;> first | assumption | omega | exact rfl))]* $[| ((with_reducible refine Br.t ?_ ?_); ((with_reducible apply $es) <;> first | assumption | omega | exact rfl))]* $[| ((with_reducible refine Br.f ?_ ?_); ((with_reducible apply $es) <;> first | assumption | omega | exact rfl))]* | ((with_reducible apply W.to); exact rfl) | (with_reducible refine Nxt.nx ?_) | (with_reducible refine Nxt.ct ?_) | (with_reducible refine Nxt.br ?_) | (with_reducible refine Nxt.rt ?_))); (try dsimp only [nset_s, nset_0, putS, frzS, nget_s, nget_0, setAll, wip, rst, nget_D, nmap_c, nmap_n, napp_c, napp_n, nrep_s, nrep_0])))
def rowL (s : Su) (g : D) : List D := (rngL 0 (s.c1 + 1).toNat).map fun x => .tup [g, x]
def grpL (s : Su) : List D := [.tup []] ++ (if 0 < s.c0 then s.sizes.map fun z => D.tup [.int z] else [])
def comL (s : Su) : List D := (grpL s).flatMap (rowL s)
theorem rowL_len {s : Su} (hs : SuOk s) (g : D) : (rowL s g).length ≤ 3 := by
  unfold rowL
  rw [List.length_map, rngL_len]
  have := hs.c1
  omega
theorem grpL_len {s : Su} (hs : SuOk s) : (grpL s).length ≤ 3 := by
  unfold grpL
  have := hs.sz.len
  split
  · rw [List.length_append, List.length_map, List.length_singleton]; omega
  · simp
theorem flat_len {s : Su} (hs : SuOk s) : ∀ l : List D, (l.flatMap (rowL s)).length ≤ 3 * l.length
  | [] => by simp
  | x :: l => by
    rw [List.flatMap_cons, List.length_append, List.length_cons]
    have := flat_len hs l
    have := rowL_len hs x
    omega
theorem take_flat {s : Su} {k : Nat} {x : D} {l : List D} (h : l[k]? = some x) : (l.take (k + 1)).flatMap (rowL s) = (l.take k).flatMap (rowL s) ++ rowL s x := by
  rw [List.take_succ, h, List.flatMap_append]
  simp
theorem m_comers {s : Su} (hs : SuOk s) : F_comers_of [suD s] = some (.lst (comL s)) := by
  have hc := hs.c1
  have hgl := grpL_len hs
  rw [eqW]
  unfold F_comers_of u_comers_of
  have fin : ∀ j3 : Sl, Wp (forL (gN 3) (sExpr (eExt 2 (oE (eLc (iRg1 (osC (oE (eOp2 addD (oE (eOp2 ixD (oE (eOp2 ixD (oV 0) (oE (eC (D.int (3)))))) (oE (eC (D.int (1)))))) (oE (eC (D.int (1)))))) osN)) (gN 5) xYes (eTup (vsC (eV 3) (vsC (eV 5) vsN))) [5])))) (grpL s) [.val (suD s), .val (.lst (grpL s)), .own (.lst []), j3, .no, .no]) fun fl Γ => fl = .nx ∧ ∃ j, Γ = [.val (suD s), .val (.lst (grpL s)), .own (.lst (comL s)), j, .no, .no] := fun j3 => by
    refine for_inv (fun k Γ => ∃ j, Γ = [.val (suD s), .val (.lst (grpL s)), .own (.lst (((grpL s).take k).flatMap (rowL s))), j, .no, .no]) ⟨_, rfl⟩ ?_ ?_
    · rintro k x Γ hx ⟨j, rfl⟩
      have hk := (List.getElem?_eq_some_iff.mp hx).1
      have hr := rowL_len hs x
      have hf := flat_len hs ((grpL s).take k)
      rw [List.length_take] at hf
      have hg : (((grpL s).take k).flatMap (rowL s)).length + (List.map (fun y => D.tup [x, y]) (rngL 0 (s.c1 + 1).toNat)).length ≤ 10000000 := by show _ + (rowL s x).length ≤ _; omega
      have hz : (rngL 0 (s.c1 + 1).toNat).length ≤ 10000000 := by rw [rngL_len]; omega
      exists rfl
      refine lc_ds (h := fun y => .tup [x, y]) ?_ ?_
      · intro y hy
        exists rfl
        exact ⟨rfl, rfl⟩
      · exists rfl
        exact ⟨_, by rw [take_flat hx]; rfl⟩
    · rintro Γ ⟨j, rfl⟩
      rw [List.take_length]
      exact ⟨rfl, _, rfl⟩
  have hsz := hs.sz.len
  have hsl : (s.sizes.map D.int).length ≤ 10000000 := by rw [List.length_map]; omega
  by_cases h0 : s.c0 > 0
  · have hg : grpL s = .tup [] :: (s.sizes.map fun z => D.tup [.int z]) := by unfold grpL; rw [if_pos h0]; rfl
    have hm : [D.tup []].length + (s.sizes.map fun z => D.tup [.int z]).length ≤ 10000000 := by rw [List.length_map, List.length_singleton]; omega
    exists rfl
    refine lc_enc (h := fun z => D.tup [.int z]) ?_ ?_
    · intro z hz
      exists rfl
      exact ⟨rfl, rfl⟩
    · have f := fin .no
      rw [hg] at f
      exists rfl
      refine f.wk fun fl Γ hq => ?_
      obtain ⟨rfl, j, rfl⟩ := hq
      exists rfl
  · have hg : grpL s = [.tup []] := by unfold grpL; rw [if_neg h0]; rfl
    have f := fin .no
    rw [hg] at f
    exists rfl
    refine f.wk fun fl Γ hq => ?_
    obtain ⟨rfl, j, rfl⟩ := hq
    exists rfl
theorem l_comers {s : Su} (hs : SuOk s) : F__law_comers [suD s] = some (.lst (comL s)) := by
  have hc := hs.c1
  have hgl := grpL_len hs
  rw [eqW]
  unfold F__law_comers u__law_comers
  have fin : ∀ j3 : Sl, Wp (forL (gN 3) (sSet 2 (eOp2 addD (oV 2) (oE (eLc (iRg1 (osC (oE (eOp2 addD (oE (eOp2 ixD (oE (eOp2 ixD (oV 0) (oE (eC (D.int (3)))))) (oE (eC (D.int (1)))))) (oE (eC (D.int (1)))))) osN)) (gN 5) xYes (eTup (vsC (eV 3) (vsC (eV 5) vsN))) [5])))) (grpL s) [.val (suD s), .val (.lst (grpL s)), .val (.lst []), j3, .no, .no]) fun fl Γ => fl = .nx ∧ ∃ j, Γ = [.val (suD s), .val (.lst (grpL s)), .val (.lst (comL s)), j, .no, .no] := fun j3 => by
    refine for_inv (fun k Γ => ∃ j, Γ = [.val (suD s), .val (.lst (grpL s)), .val (.lst (((grpL s).take k).flatMap (rowL s))), j, .no, .no]) ⟨_, rfl⟩ ?_ ?_
    · rintro k x Γ hx ⟨j, rfl⟩
      have hk := (List.getElem?_eq_some_iff.mp hx).1
      have hr := rowL_len hs x
      have hf := flat_len hs ((grpL s).take k)
      rw [List.length_take] at hf
      have hg : (((grpL s).take k).flatMap (rowL s)).length + (List.map (fun y => D.tup [x, y]) (rngL 0 (s.c1 + 1).toNat)).length ≤ 10000000 := by show _ + (rowL s x).length ≤ _; omega
      have hz : (rngL 0 (s.c1 + 1).toNat).length ≤ 10000000 := by rw [rngL_len]; omega
      exists rfl
      refine lc_ds (h := fun y => .tup [x, y]) ?_ ?_
      · intro y hy
        exists rfl
        exact ⟨rfl, rfl⟩
      · exists rfl
        exact ⟨_, by rw [take_flat hx]; rfl⟩
    · rintro Γ ⟨j, rfl⟩
      rw [List.take_length]
      exact ⟨rfl, _, rfl⟩
  have hsz := hs.sz.len
  have hsl : (s.sizes.map D.int).length ≤ 10000000 := by rw [List.length_map]; omega
  by_cases h0 : s.c0 > 0
  · have hg : grpL s = .tup [] :: (s.sizes.map fun z => D.tup [.int z]) := by unfold grpL; rw [if_pos h0]; rfl
    have hm : [D.tup []].length + (s.sizes.map fun z => D.tup [.int z]).length ≤ 10000000 := by rw [List.length_map, List.length_singleton]; omega
    exists rfl
    refine lc_enc (h := fun z => D.tup [.int z]) ?_ ?_
    · intro z hz
      exists rfl
      exact ⟨rfl, rfl⟩
    · have f := fin .no
      rw [hg] at f
      exists rfl
      refine f.wk fun fl Γ hq => ?_
      obtain ⟨rfl, j, rfl⟩ := hq
      exists rfl
  · have hg : grpL s = [.tup []] := by unfold grpL; rw [if_neg h0]; rfl
    have f := fin .no
    rw [hg] at f
    exists rfl
    refine lc_filter (fun _ => false) id ?_ ?_
    · intro x hx
      exists rfl
      have hd : decide (0 < s.c0) = false := decide_eq_false (by omega)
      exact ⟨hd, rfl, fun h => by rw [hd] at h; cases h⟩
    rw [show ((s.sizes.map D.int).filter fun _ => false).map id = [] by rw [List.filter_eq_nil_iff.mpr (fun _ _ h => by cases h)]; rfl]
    exists rfl
    refine f.wk fun fl Γ hq => ?_
    obtain ⟨rfl, j, rfl⟩ := hq
    exists rfl
theorem comL_gr (s : Su) : Gr 3 (.lst (comL s)) := .lst fun d hd => by
  unfold comL at hd
  obtain ⟨g, hg, hd⟩ := List.mem_flatMap.mp hd
  unfold rowL at hd
  obtain ⟨x, hx, rfl⟩ := List.mem_map.mp hd
  obtain ⟨k, hk⟩ := List.mem_iff_getElem?.mp hx
  obtain ⟨_, rfl⟩ := rngL_at hk
  have hg1 : Gr 1 g := by
    unfold grpL at hg
    rcases List.mem_append.mp hg with hg | hg
    · rw [List.mem_singleton.mp hg]
      exact .tup fun d hd => by cases hd
    · split at hg
      · obtain ⟨z, _, rfl⟩ := List.mem_map.mp hg
        exact .tup fun d hd => by rw [List.mem_singleton.mp hd]; exact .int _
      · cases hg
  exact .tup fun d hd => by
    rcases List.mem_cons.mp hd with rfl | hd
    · exact hg1
    · rw [List.mem_singleton.mp hd]; exact .int _
theorem m_all {s : Su} (hs : SuOk s) : F_all_comers [suD s] = some (.lst (comL s)) := by
  rw [eqW]
  unfold F_all_comers u_all_comers
  exists m_needSetup hs, m_comers hs
end K19

set_option maxHeartbeats 4000000
namespace K19
open PySem PySem.Spec PyProof.Rows L2 Pd Zd
local macro_rules
  | `(tactic| exists $es,*) => `(tactic| ((repeat (first | (refine Wx.st ?_) | (refine W1.st ?_) | ((with_reducible refine Gd.mk ?_ ?_); first | exact rfl | assumption | omega | decide | exact sm_l rfl | exact sm_r rfl | exact sm_lo (by omega) (by omega) | exact sm_ro (by omega) (by omega) | (simp only [List.length_cons, List.length_nil, List.length_map, List.length_append, List.length_range, List.length_replicate, rngL_len, rngD_len]; omega)) | ((with_reducible refine Br.t ?_ ?_); first | exact rfl | assumption | exact decide_eq_true (by omega) | exact nt_of (by omega)) | ((with_reducible refine Br.f ?_ ?_); first | exact rfl | assumption | exact decide_eq_false (by omega) | exact nf_of (by omega)) $[| ((with_reducible apply W.to); ((with_reducible apply $es) <;> first | assumption | omega | exact rfl))]* $[| ((with_reducible apply Wp.to); ((with_reducible apply $es) <;> first | assumption | omega | exact rfl))]* $[| ((with_reducible refine Br.t ?_ ?_); ((with_reducible apply $es) <;> first | assumption | omega | exact rfl))]* $[| ((with_reducible refine Br.f ?_ ?_); ((with_reducible apply $es) <;> first | assumption | omega | exact rfl))]* | ((with_reducible apply W.to); exact rfl) | (with_reducible refine Nxt.nx ?_) | (with_reducible refine Nxt.ct ?_) | (with_reducible refine Nxt.br ?_) | (with_reducible refine Nxt.rt ?_))); (try dsimp only [nset_s, nset_0, putS, frzS, nget_s, nget_0, setAll, wip, rst, nget_D, nmap_c, nmap_n, napp_c, napp_n, nrep_s, nrep_0]); (repeat (first | (refine Wx.st ?_) | (refine W1.st ?_) | ((with_reducible refine Gd.mk ?_ ?_); first | exact rfl | assumption | omega | decide | exact sm_l rfl | exact sm_r rfl | exact sm_lo (by omega) (by omega) | exact sm_ro (by omega) (by omega) | (simp only [List.length_cons, List.length_nil, List.length_map, List.length_append, List.length_range, List.length_replicate, rngL_len, rngD_len]; omega)) | ((with_reducible refine Br.t ?_ ?_); first | exact rfl | assumption | exact decide_eq_true (by omega) | exact nt_of (by omega)) | ((with_reducible refine Br.f ?_ ?_); first | exact rfl | assumption | exact decide_eq_false (by omega) | exact nf_of (by omega)) $[| ((with_reducible apply W.to); ((with_reducible apply $es) <;> first | assumption | omega | exact rfl))]* $[| ((with_reducible apply Wp.to); ((with_reducible apply $es) <;> first | assumption | omega | exact rfl))]* $[| ((with_reducible refine Br.t ?_ ?_); ((with_reducible apply $es) <;> first | assumption | omega | exact rfl))]* $[| ((with_reducible refine Br.f ?_ ?_); ((with_reducible apply $es) <;> first | assumption | omega | exact rfl))]* | ((with_reducible apply W.to); exact rfl) | (with_reducible refine Nxt.nx ?_) | (with_reducible refine Nxt.ct ?_) | (with_reducible refine Nxt.br ?_) | (with_reducible refine Nxt.rt ?_))); (try dsimp only [nset_s, nset_0, putS, frzS, nget_s, nget_0, setAll, wip, rst, nget_D, nmap_c, nmap_n, napp_c, napp_n, nrep_s, nrep_0])))
abbrev edgeR : Rw := ⟨0, 0, 9, 9, 9, 0, 0, 4, 4, "go", 2⟩
theorem tl_pr {n : Nat} {a b : Int} (h1 : 0 ≤ a) (h2 : a ≤ 9) (h3 : 0 ≤ b) (h4 : b ≤ 9) : Tl (n + 1) (prD a b) := .tup (Al.cons (P := Tl n) (.int (by omega) (by omega)) (.cons (.int (by omega) (by omega)) .nil)).all (by simp)
theorem tl_ints {n : Nat} {l : List Int} (h : ∀ x ∈ l, 0 ≤ x ∧ x ≤ 9) (hl : l.length ≤ 13) : Tl (n + 1) (intsD l) := .tup (fun d hd => by
  obtain ⟨x, hx, rfl⟩ := List.mem_map.mp hd
  have := h x hx
  exact .int (by omega) (by omega)) (by rw [List.length_map]; exact hl)
theorem dd_len {x : Str} (h : x ∈ seatDeeds) : (PyData.shown (.str x)).length ≤ 48 := by
  simp only [List.mem_cons, List.not_mem_nil, or_false] at h
  rcases h with rfl | rfl | rfl <;> decide +kernel
theorem rw_al {r : Rw} {mm : Int} (h : RwOk seatDeeds mm r) (hm : mm ≤ 2) : Al (Tl 1) [.int r.m, prD r.a0 r.b0, prD r.a1 r.b1, prD r.a2 r.b2, prD r.a3 r.b3, .str r.dd, .int r.n] := by
  have a := h.m
  have b := h.n
  have x0 := h.x0
  have x1 := h.x1
  have x2 := h.x2
  have x3 := h.x3
  exact .cons (.int (by omega) (by omega)) (.cons (tl_pr (by omega) (by omega) (by omega) (by omega)) (.cons (tl_pr (by omega) (by omega) (by omega) (by omega)) (.cons (tl_pr (by omega) (by omega) (by omega) (by omega)) (.cons (tl_pr (by omega) (by omega) (by omega) (by omega)) (.cons (.str (dd_len h.dd)) (.cons (.int (by omega) (by omega)) .nil))))))
theorem tl_rw {r : Rw} {mm : Int} (h : RwOk seatDeeds mm r) (hm : mm ≤ 2) : Tl 2 (rwD r) := .tup (rw_al h hm).all (by simp)
theorem edge_ok : RwOk seatDeeds 2 edgeR := ⟨by decide, by decide, by decide, by decide, by decide, by decide, by simp⟩
theorem tl_edge : Tl 2 (rwD edgeR) := tl_rw edge_ok (by decide)
theorem tl_rows {rs : List Rw} (h : ∀ r ∈ rs, RwOk seatDeeds 2 r) : ∀ d ∈ rs.map rwD, Tl 2 d := fun d hd => by
  obtain ⟨r, hr, rfl⟩ := List.mem_map.mp hd
  exact tl_rw (h r hr) (by decide)
abbrev suL (s : Su) : List D := [.int s.pews, intsD s.sizes, prD s.r0 s.r1, prD s.c0 s.c1, intsD s.kinds, .int s.life, .tup [.int s.p0, .int s.p1, .int s.p2, .int s.p3]]
theorem chc_al {l : List Int} {m : Int} (h : Chc l m) (hm : m ≤ 9) : Tl 1 (intsD l) := tl_ints (fun x hx => by have := h.mem x hx; omega) (by have := h.len; omega)
theorem tl_su {s : Su} (h : SuOk s) : ∀ d ∈ suL s, Tl 1 d := by
  have pe := h.pe
  have r0 := h.r0
  have r1 := h.r1
  have c0 := h.c0
  have c1 := h.c1
  have li := h.li
  have p0 := h.p0
  have p1 := h.p1
  have p2 := h.p2
  have p3 := h.p3
  exact (Al.cons (P := Tl 1) (.int (by omega) (by omega)) (.cons (chc_al h.sz (by omega)) (.cons (tl_pr (by omega) (by omega) (by omega) (by omega)) (.cons (tl_pr (by omega) (by omega) (by omega) (by omega)) (.cons (chc_al h.ki (by omega)) (.cons (.int (by omega) (by omega)) (.cons (.tup (Al.cons (P := Tl 0) (.int (by omega) (by omega)) (.cons (.int (by omega) (by omega)) (.cons (.int (by omega) (by omega)) (.cons (.int (by omega) (by omega)) .nil)))).all (by simp)) .nil))))))).all
theorem rep_mem {α : Type} {n : Nat} {x y : α} (h : y ∈ (List.replicate n [x]).flatten) : y = x := by
  obtain ⟨l, h1, h2⟩ := List.mem_flatten.mp h
  rw [List.eq_of_mem_replicate h1] at h2
  exact List.mem_singleton.mp h2
theorem app_all {P : D → Prop} {l1 l2 : List D} (h1 : ∀ d ∈ l1, P d) (h2 : ∀ d ∈ l2, P d) : ∀ d ∈ l1 ++ l2, P d := fun d hd => by
  rcases List.mem_append.mp hd with hd | hd
  · exact h1 d hd
  · exact h2 d hd
theorem cut_all {P : D → Prop} {l : List D} {lo hi : Option Int} (h : ∀ d ∈ l, P d) : ∀ d ∈ cutL l lo hi, P d := fun d hd => h d (cutL_mem hd)
theorem m_bentF {n : Nat} {N : Int} {d x : D} (hx : Tl n x) (hn : n ≤ 3) (hd : Dk N d) (hN : N < 10000000) : ∃ y d', F__law_bent d [x] = some (y, d') ∧ Bnt 4 y ∧ Dk (N + 50) d' := by
  obtain ⟨y, d', e, hy, h⟩ := m_bent 5 n (by omega) hx hn hd (by omega)
  refine ⟨y, d', ?_, hy.mono (by omega), h.mono (by omega)⟩
  unfold F__law_bent
  exact e
/-- one item judged -/
theorem says_t (b : Bool) : F__law_says [.bl b, .bl b] = some (.bl true) := by
  have e : eqD (.bl b) (.bl b) = some (.bl true) := eqD_self (okd_bl b) (by omega)
  rw [eqW]
  unfold F__law_says u__law_says
  (exists e) <;> rfl
end K19

set_option maxHeartbeats 4000000
namespace K19
open PySem PySem.Spec PyProof.Rows L2 Pd Zd
local macro_rules
  | `(tactic| exists $es,*) => `(tactic| ((repeat (first | (refine Wx.st ?_) | (refine W1.st ?_) | ((with_reducible refine Gd.mk ?_ ?_); first | exact rfl | assumption | omega | decide | exact sm_l rfl | exact sm_r rfl | exact sm_lo (by omega) (by omega) | exact sm_ro (by omega) (by omega) | (simp only [List.length_cons, List.length_nil, List.length_map, List.length_append, List.length_range, List.length_replicate, rngL_len, rngD_len]; omega)) | ((with_reducible refine Br.t ?_ ?_); first | exact rfl | assumption | exact decide_eq_true (by omega) | exact nt_of (by omega)) | ((with_reducible refine Br.f ?_ ?_); first | exact rfl | assumption | exact decide_eq_false (by omega) | exact nf_of (by omega)) $[| ((with_reducible apply W.to); ((with_reducible apply $es) <;> first | assumption | omega | exact rfl))]* $[| ((with_reducible apply Wp.to); ((with_reducible apply $es) <;> first | assumption | omega | exact rfl))]* $[| ((with_reducible refine Br.t ?_ ?_); ((with_reducible apply $es) <;> first | assumption | omega | exact rfl))]* $[| ((with_reducible refine Br.f ?_ ?_); ((with_reducible apply $es) <;> first | assumption | omega | exact rfl))]* | ((with_reducible apply W.to); exact rfl) | (with_reducible refine Nxt.nx ?_) | (with_reducible refine Nxt.ct ?_) | (with_reducible refine Nxt.br ?_) | (with_reducible refine Nxt.rt ?_))); (try dsimp only [nset_s, nset_0, putS, frzS, nget_s, nget_0, setAll, wip, rst, nget_D, nmap_c, nmap_n, napp_c, napp_n, nrep_s, nrep_0]); (repeat (first | (refine Wx.st ?_) | (refine W1.st ?_) | ((with_reducible refine Gd.mk ?_ ?_); first | exact rfl | assumption | omega | decide | exact sm_l rfl | exact sm_r rfl | exact sm_lo (by omega) (by omega) | exact sm_ro (by omega) (by omega) | (simp only [List.length_cons, List.length_nil, List.length_map, List.length_append, List.length_range, List.length_replicate, rngL_len, rngD_len]; omega)) | ((with_reducible refine Br.t ?_ ?_); first | exact rfl | assumption | exact decide_eq_true (by omega) | exact nt_of (by omega)) | ((with_reducible refine Br.f ?_ ?_); first | exact rfl | assumption | exact decide_eq_false (by omega) | exact nf_of (by omega)) $[| ((with_reducible apply W.to); ((with_reducible apply $es) <;> first | assumption | omega | exact rfl))]* $[| ((with_reducible apply Wp.to); ((with_reducible apply $es) <;> first | assumption | omega | exact rfl))]* $[| ((with_reducible refine Br.t ?_ ?_); ((with_reducible apply $es) <;> first | assumption | omega | exact rfl))]* $[| ((with_reducible refine Br.f ?_ ?_); ((with_reducible apply $es) <;> first | assumption | omega | exact rfl))]* | ((with_reducible apply W.to); exact rfl) | (with_reducible refine Nxt.nx ?_) | (with_reducible refine Nxt.ct ?_) | (with_reducible refine Nxt.br ?_) | (with_reducible refine Nxt.rt ?_))); (try dsimp only [nset_s, nset_0, putS, frzS, nget_s, nget_0, setAll, wip, rst, nget_D, nmap_c, nmap_n, napp_c, napp_n, nrep_s, nrep_0])))
abbrev edgeL : List D := [.int 0, .tup [.int 0, .int 9], .tup [.int 9, .int 9], .tup [.int 0, .int 0], .tup [.int 4, .int 4], .str "go", .int 2]
theorem edge_tl : Tl 2 (.tup edgeL) := tl_edge
theorem edges_tl {n : Nat} : ∀ d ∈ (List.replicate n [D.tup edgeL]).flatten, Tl 2 d := fun d hd => by rw [rep_mem hd]; exact edge_tl
abbrev rules0 (rs : List Rw) : List D := [ruD rs, .tup [], .tup (List.replicate (Int.toNat 6) [D.tup edgeL]).flatten, .tup (List.replicate (Int.toNat 7) [D.tup edgeL]).flatten, .tup (rs.map rwD ++ (List.replicate (Int.toNat 6) [D.tup edgeL]).flatten), .lst (rs.map rwD), .tup (cutL (rs.map rwD) none (some 1)), .tup [.tup (cutL edgeL none (some 5) ++ [.str "Group", .int 0])]]
theorem rules0_ok {rs : List Rw} (hr : ∀ r ∈ rs, RwOk seatDeeds 2 r) (hl : rs.length ≤ 6) : ∀ z ∈ rules0 rs, Bnt 4 z := by
  have t := tl_rows hr
  have hm : (rs.map rwD).length ≤ 6 := by rw [List.length_map]; exact hl
  have b3 : ∀ {l : List D}, (∀ d ∈ l, Tl 2 d) → l.length ≤ 14 → Bnt 4 (.tup l) := fun h hl => (bt_tup h hl).mono (by omega)
  refine (Al.cons (P := Bnt 4) (b3 t (by omega)) (.cons (b3 (fun d hd => by cases hd) (by simp)) (.cons (b3 edges_tl (by decide)) (.cons (b3 edges_tl (by decide)) (.cons (b3 (app_all t edges_tl) ?_) (.cons ((bt_lst t (by omega)).mono (by omega)) (.cons (b3 (cut_all t) (Nat.le_trans (cutL_len _ _ _) (by omega))) (.cons (b3 (fun d hd => ?_) (by simp)) .nil)))))))).all
  · rw [List.length_append]
    show (rs.map rwD).length + 6 ≤ 14
    omega
  · rw [List.mem_singleton.mp hd]
    exact .tup (app_all (cut_all (rw_al edge_ok (by decide)).all) (Al.cons (P := Tl 1) (.str (by decide +kernel)) (.cons (.int (by decide) (by decide)) .nil)).all) (by decide)
abbrev setups0 (s : Su) : List D := [suD s, .tup (cutL (suL s) none (some 6)), .tup (suL s ++ [.int 0]), .lst (suL s), .tup [.int 4, .tup [.int 3, .int 4], .tup [.int 2, .int 2], .tup [.int 1, .int 2], .tup [.int 1, .int 4], .int 3, .tup [.int 5, .int 5, .int 5, .int 5]]]
abbrev setups1 (s : Su) : List D := [.tup ([.int 5] ++ cutL (suL s) (some 1) none), .tup [.int 1, .tup [.int 1], .tup [.int 1, .int 0], .tup [.int 0, .int 0], .tup [.int 4], .int 1, .tup [.int 0, .int 0, .int 0, .int 0]], .tup ([.int 0] ++ cutL (suL s) (some 1) none), .tup ([.bl true] ++ cutL (suL s) (some 1) none)]
theorem tl_is {l : List Int} (h : ∀ x ∈ l, 0 ≤ x ∧ x ≤ 9) (hl : l.length ≤ 13) : Tl 1 (.tup (l.map D.int)) := tl_ints h hl
theorem setups_ok {s : Su} (hs : SuOk s) : ∀ z ∈ setups0 s ++ setups1 s, Bnt 4 z := by
  have t := tl_su hs
  have b2 : ∀ {l : List D}, (∀ d ∈ l, Tl 1 d) → l.length ≤ 14 → Bnt 4 (.tup l) := fun h hl => (bt_tup h hl).mono (by omega)
  have hc : (cutL (suL s) (some 1) none).length ≤ 7 := cutL_len _ _ _
  have i1 : ∀ {i : Int}, 0 ≤ i → i ≤ 9 → ∀ d ∈ [D.int i], Tl 1 d := fun h1 h2 d hd => by rw [List.mem_singleton.mp hd]; exact .int (by omega) (by omega)
  have big : ∀ d ∈ [D.int 4, .tup [.int 3, .int 4], .tup [.int 2, .int 2], .tup [.int 1, .int 2], .tup [.int 1, .int 4], .int 3, .tup [.int 5, .int 5, .int 5, .int 5]], Tl 1 d :=
    (Al.cons (P := Tl 1) (.int (by decide) (by decide)) (.cons (tl_is (l := [3, 4]) (by decide) (by decide)) (.cons (tl_is (l := [2, 2]) (by decide) (by decide)) (.cons (tl_is (l := [1, 2]) (by decide) (by decide)) (.cons (tl_is (l := [1, 4]) (by decide) (by decide)) (.cons (.int (by decide) (by decide)) (.cons (tl_is (l := [5, 5, 5, 5]) (by decide) (by decide)) .nil))))))).all
  have sml : ∀ d ∈ [D.int 1, .tup [.int 1], .tup [.int 1, .int 0], .tup [.int 0, .int 0], .tup [.int 4], .int 1, .tup [.int 0, .int 0, .int 0, .int 0]], Tl 1 d :=
    (Al.cons (P := Tl 1) (.int (by decide) (by decide)) (.cons (tl_is (l := [1]) (by decide) (by decide)) (.cons (tl_is (l := [1, 0]) (by decide) (by decide)) (.cons (tl_is (l := [0, 0]) (by decide) (by decide)) (.cons (tl_is (l := [4]) (by decide) (by decide)) (.cons (.int (by decide) (by decide)) (.cons (tl_is (l := [0, 0, 0, 0]) (by decide) (by decide)) .nil))))))).all
  refine app_all (Al.cons (P := Bnt 4) (b2 t (by simp)) (.cons (b2 (cut_all t) (Nat.le_trans (cutL_len _ _ _) (by simp))) (.cons (b2 (app_all t (i1 (by decide) (by decide))) (by simp)) (.cons ((bt_lst t (by simp)).mono (by omega)) (.cons (b2 big (by simp)) .nil))))).all
    (Al.cons (P := Bnt 4) (b2 (app_all (i1 (by decide) (by decide)) (cut_all t)) ?_) (.cons (b2 sml (by simp)) (.cons (b2 (app_all (i1 (by decide) (by decide)) (cut_all t)) ?_) (.cons ((bt_mid (n := 1) (l1 := []) (fun d hd => by cases hd) (cut_all t) (bt_bl true) ?_).mono (by omega)) .nil)))).all
  · rw [List.length_append, List.length_singleton]; omega
  · rw [List.length_append, List.length_singleton]; omega
  · rw [List.length_nil]; omega
theorem last_ok : ∀ z ∈ [D.non, .int 0, .str "setup", .dct []], Bnt 4 z := (Al.cons (P := Bnt 4) bt_non (.cons (bt_int (by decide) (by decide)) (.cons (bt_str (by decide +kernel)) (.cons bt_dct0 .nil)))).all
theorem m_right {d : D} (h : Dk 100 d) : ∃ d', F__law_right d [] = some (.bl true, d') := by
  suffices h : Wp (F__law_right d []) (fun x _ => x = .bl true) by
    obtain ⟨x, d', e, rfl⟩ := h
    exact ⟨d', e⟩
  obtain ⟨s, d1, e1, hs, k1⟩ := m_setup (sm := 0) h (by omega) (.inl rfl)
  obtain ⟨v, d2, e2, v1, v2, k2⟩ := m_draw (m := 2) k1 (by omega) (by omega) (by omega)
  obtain ⟨rs, d3, e3, hrs, hl, k3⟩ := m_seats (mo := 3) (df := decide (v = 0)) k2 (by omega) (by omega) (by omega)
  have hr : ∀ r ∈ rs, RwOk seatDeeds 2 r := fun r hr => (hrs r hr).1.mono (by omega)
  have c2 := eqD_int v 0
  have g6 : [D.tup edgeL] ≠ [] ∧ (1 : Int) ≤ 6 ∧ (6 : Int) ≤ 1000 ∧ [D.tup edgeL].length ≤ 1000 := ⟨by simp, by decide, by decide, by simp⟩
  have g7 : [D.tup edgeL] ≠ [] ∧ (1 : Int) ≤ 7 ∧ (7 : Int) ≤ 1000 ∧ [D.tup edgeL].length ≤ 1000 := ⟨by simp, by decide, by decide, by simp⟩
  have hm : (rs.map rwD).length ≤ 6 := by rw [List.length_map]; exact hl
  have ha : (rs.map rwD).length + (List.replicate (Int.toNat 6) [D.tup edgeL]).flatten.length ≤ 10000000 := by show (rs.map rwD).length + 6 ≤ _; omega
  have hc : (cutL (suL s) (some 1) none).length ≤ 7 := cutL_len _ _ _
  have gq : (cutL edgeL none (some 5)).length + [D.str "Group", .int 0].length ≤ 10000000 := by decide
  unfold F__law_right u__law_right
  exists e1, e2, c2, e3
  refine for_inv (fun k Γ => ∃ (dk : D) (A B : List D) (j6 : Sl), Γ = [.byr dk, .val (suD s), .val (ruD rs), .val (.tup edgeL), .own (.lst A), .own (.lst B), j6, .no, .no, .no] ∧ (∀ z ∈ A, Bnt 4 z) ∧ (∀ z ∈ B, Bnt 4 z) ∧ A.length ≤ 8 + k ∧ B.length ≤ 9 + k ∧ Dk (1000 + 100 * k) dk)
    ⟨d3, _, _, _, rfl, rules0_ok hr hl, setups_ok hs, by simp, by simp, k3.mono (by omega)⟩ ?_ ?_
  · rintro k x Γ hx ⟨dk, A, B, j6, rfl, hA, hB, lA, lB, hd⟩
    obtain ⟨hk, rfl⟩ := rngL_at hx
    have hk : k < 10 := hk
    obtain ⟨y1, d4, f1, b1, k4⟩ := m_bentF (n := 2) (x := suD s) (.tup (tl_su hs) (by simp)) (by omega) hd (by omega)
    have hcl : (cutL [D.tup edgeL] none (some (6 - ((rs.map rwD).length : Nat)))).length ≤ 1 := cutL_len _ _ _
    obtain ⟨y2, d5, f2, b2, k5⟩ := m_bentF (n := 3) (x := .tup (rs.map rwD ++ cutL [D.tup edgeL] none (some (6 - ((rs.map rwD).length : Nat))))) (.tup (app_all (tl_rows hr) (cut_all fun d hd => by rw [List.mem_singleton.mp hd]; exact edge_tl)) (by rw [List.length_append]; omega)) (by omega) k4 (by omega)
    have ga : (rs.map rwD).length + (cutL [D.tup edgeL] none (some (6 - ((rs.map rwD).length : Nat)))).length ≤ 10000000 := by omega
    have gA : A.length < 10000000 := by omega
    have gB : B.length < 10000000 := by omega
    exists f1, f2
    exact ⟨d5, A ++ [y2], B ++ [y1], _, rfl, app_all hA (fun d hd => by rw [List.mem_singleton.mp hd]; exact b2), app_all hB (fun d hd => by rw [List.mem_singleton.mp hd]; exact b1), by rw [List.length_append, List.length_singleton]; omega, by rw [List.length_append, List.length_singleton]; omega, k5.mono (by omega)⟩
  · rintro Γ ⟨dk, A, B, j6, rfl, hA, hB, lA, lB, hd⟩
    rw [rngL_len] at lA lB
    have lA : A.length ≤ 18 := lA
    have lB : B.length ≤ 19 := lB
    have g1 : B.length + A.length ≤ 10000000 := by omega
    have g2 : (B ++ A).length + [D.non, .int 0, .str "setup", .dct []].length ≤ 10000000 := by rw [List.length_append]; show B.length + A.length + 4 ≤ _; omega
    exists rfl
    refine for_inv (fun k Γ => ∃ (j7 j8 : Sl), Γ = [.byr dk, .val (suD s), .val (ruD rs), .val (.tup edgeL), .own (.lst A), .own (.lst B), j6, j7, j8, .no]) ⟨_, _, rfl⟩ ?_ ?_
    · rintro k x Γ hx ⟨j7, j8, rfl⟩
      have hb : Bnt 4 x := app_all (app_all hB hA) last_ok x (List.mem_of_getElem? hx)
      obtain ⟨S, eS⟩ := hb.repr (by omega)
      have t1 := t_setup hb.pl
      have t2 : F_is_setup_0_thing [x] = some (.bl (setupB x)) := t_setup hb.pl
      have t3 := t_seats hb.pl
      have t4 : F_is_seats_0_thing [x] = some (.bl (ruleB seatDeeds x)) := t_seats hb.pl
      have l1 := l_setup hb.pl
      have l2 := l_seats hb.pl
      have s1 := says_t (setupB x)
      have s2 := says_t (ruleB seatDeeds x)
      have n1 : neD (.bl (setupB x)) (.bl (setupB x)) = some (.bl false) := neD_self (okd_bl _) (by omega)
      have n2 : neD (.bl (ruleB seatDeeds x)) (.bl (ruleB seatDeeds x)) = some (.bl false) := neD_self (okd_bl _) (by omega)
      have n3 : neD (.str S) (.str S) = some (.bl false) := neD_no (n := 0) (.str S) rfl
      exists eS, t1, l1, s1, t3, l2, s2
      exists t2, l1, n1, t4, l2, n2, eS, n3
      exact ⟨_, _, rfl⟩
    · rintro Γ ⟨j7, j8, rfl⟩
      have m1 := m_all hs
      have m2 : F_all_comers_0_setup [suD s] = some (.lst (comL s)) := m_all hs
      have m3 := l_comers hs
      have n1 : neD (.lst (comL s)) (.lst (comL s)) = some (.bl false) := neD_no (comL_gr s) rfl
      have n2 : eqD (.lst (comL s)) (.lst (comL s)) = some (.bl true) := eqD_yes (comL_gr s) rfl
      have gl : (comL s).length < 10000000 := by
        have := flat_len hs (grpL s)
        have := grpL_len hs
        show ((grpL s).flatMap (rowL s)).length < _
        omega
      (exists m1, m3, n1, m2, n2) <;> rfl
theorem m_law (ns : List Int) : F_law [.scr ns] = some (.bl true) := by
  rw [eqW]
  unfold F_law u_law
  exists rfl
  refine for_inv (fun k Γ => ∃ j1 : Sl, Γ = [.val (.scr ns), j1]) ⟨_, rfl⟩ ?_ ?_
  · rintro k x Γ hx ⟨j1, rfl⟩
    obtain ⟨hk, rfl⟩ := rngL_at hx
    rw [Int.zero_add]
    have hk3 : k < 3 := by
      split at hk <;> (try split at hk) <;> omega
    obtain ⟨d, e1, hd⟩ := m_deck ns k (by omega)
    obtain ⟨d', e2⟩ := m_right hd
    exists e1, e2
    exact ⟨_, rfl⟩
  · rintro Γ ⟨j1, rfl⟩
    exists rfl
end K19

open PySem PySem.W PyProof.Rows
set_option maxHeartbeats 0 in
theorem PySem.Challenge.cw_parlourday_k19_setups_and_seat_rules_jud_holds : PySem.Challenge.rw_parlourday_k19_setups_and_seat_rules_jud.Holds := by
  w_on; o_law; k_head; (case hw => w_witness2)
  k_fill
  refine Pd.walk_ofG (l := PySem.Challenge.rw_parlourday_k19_setups_and_seat_rules_jud) (n := 63) (k := 9) (x := "_law_script") (sp := fun w => Zd.spV ⟨_, w⟩ .rest K19.F_law) rfl (by decide) rfl ⟨rfl, by decide, by decide⟩ (fun w h Y => PySem.W.kIn_of Y) ?F (fun _ H a ns hl _ hS => ⟨H, [.scr ns], .bl true, L2.Same.refl _, .cons (.scr hS) .nil, K19.m_law ns, fun v Hf' H' _ _ _ _ r => by cases (show Zd.Rep _ Hf' v (.bl true) from r); rfl⟩)
  case F =>
    intro w mg fa h KX G hmg
    refine' K19.all_mk KX G hmg ?a0 ?l0 ?c0 ?k0 ?a1 ?l1 ?c1 ?k1 ?t1 ?u1 ?a2 ?l2 ?c2 ?k2 ?a3 ?l3 ?c3 ?k3 ?a4 ?l4 ?c4 ?k4 ?a5 ?l5 ?c5 ?k5 ?a6 ?l6 ?c6 ?k6 ?a7 ?l7 ?c7 ?k7 ?a8 ?l8 ?c8 ?k8 ?a9 ?l9 ?c9 ?k9 ?a10 ?l10 ?c10 ?k10 ?a11 ?l11 ?c11 ?k11 ?a12 ?l12 ?c12 ?k12 ?a13 ?l13 ?c13 ?k13 ?a14 ?l14 ?c14 ?k14 ?a15 ?l15 ?c15 ?k15 ?a16 ?l16 ?c16 ?k16 ?a17 ?l17 ?c17 ?k17 ?a18 ?l18 ?c18 ?k18 ?a19 ?l19 ?c19 ?k19 ?a20 ?l20 ?c20 ?k20 ?a21 ?l21 ?c21 ?k21 ?a22 ?l22 ?c22 ?k22 ?a23 ?l23 ?c23 ?k23 ?a24 ?l24 ?c24 ?k24 ?a25 ?l25 ?c25 ?k25 ?a26 ?l26 ?c26 ?k26 ?a27 ?l27 ?c27 ?k27 ?z0 ?z1 ?z2 ?z3 ?z4 ?z5 ?z6 ?z7 ?z8 ?z9 ?z10 ?z11 ?z12 ?z13 ?z14 ?z15 ?con0 ?xl0 ?xc0 ?xd0 ?con1 ?con2 ?con3 ?con4 ?con5 ?con6 ?con7 ?xl9 ?xc9 ?xd9
    (case a0 => first | k_is | rfl)
    (case l0 => first | k_is | rfl)
    (case c0 => first | k_is | rfl)
    (case k0 => first | k_is | rfl)
    (case a1 => first | k_is | rfl)
    (case l1 => first | k_is | rfl)
    (case c1 => first | k_is | rfl)
    (case k1 => first | k_is | rfl)
    (case t1 => first | k_is | rfl)
    (case u1 => first | k_is | rfl)
    (case a2 => first | k_is | rfl)
    (case l2 => first | k_is | rfl)
    (case c2 => first | k_is | rfl)
    (case k2 => first | k_is | rfl)
    (case a3 => first | k_is | rfl)
    (case l3 => first | k_is | rfl)
    (case c3 => first | k_is | rfl)
    (case k3 => first | k_is | rfl)
    (case a4 => first | k_is | rfl)
    (case l4 => first | k_is | rfl)
    (case c4 => first | k_is | rfl)
    (case k4 => first | k_is | rfl)
    (case a5 => first | k_is | rfl)
    (case l5 => first | k_is | rfl)
    (case c5 => first | k_is | rfl)
    (case k5 => first | k_is | rfl)
    (case a6 => first | k_is | rfl)
    (case l6 => first | k_is | rfl)
    (case c6 => first | k_is | rfl)
    (case k6 => first | k_is | rfl)
    (case a7 => first | k_is | rfl)
    (case l7 => first | k_is | rfl)
    (case c7 => first | k_is | rfl)
    (case k7 => first | k_is | rfl)
    (case a8 => first | k_is | rfl)
    (case l8 => first | k_is | rfl)
    (case c8 => first | k_is | rfl)
    (case k8 => first | k_is | rfl)
    (case a9 => first | k_is | rfl)
    (case l9 => first | k_is | rfl)
    (case c9 => first | k_is | rfl)
    (case k9 => first | k_is | rfl)
    (case a10 => first | k_is | rfl)
    (case l10 => first | k_is | rfl)
    (case c10 => first | k_is | rfl)
    (case k10 => first | k_is | rfl)
    (case a11 => first | k_is | rfl)
    (case l11 => first | k_is | rfl)
    (case c11 => first | k_is | rfl)
    (case k11 => first | k_is | rfl)
    (case a12 => first | k_is | rfl)
    (case l12 => first | k_is | rfl)
    (case c12 => first | k_is | rfl)
    (case k12 => first | k_is | rfl)
    (case a13 => first | k_is | rfl)
    (case l13 => first | k_is | rfl)
    (case c13 => first | k_is | rfl)
    (case k13 => first | k_is | rfl)
    (case a14 => first | k_is | rfl)
    (case l14 => first | k_is | rfl)
    (case c14 => first | k_is | rfl)
    (case k14 => first | k_is | rfl)
    (case a15 => first | k_is | rfl)
    (case l15 => first | k_is | rfl)
    (case c15 => first | k_is | rfl)
    (case k15 => first | k_is | rfl)
    (case a16 => first | k_is | rfl)
    (case l16 => first | k_is | rfl)
    (case c16 => first | k_is | rfl)
    (case k16 => first | k_is | rfl)
    (case a17 => first | k_is | rfl)
    (case l17 => first | k_is | rfl)
    (case c17 => first | k_is | rfl)
    (case k17 => first | k_is | rfl)
    (case a18 => first | k_is | rfl)
    (case l18 => first | k_is | rfl)
    (case c18 => first | k_is | rfl)
    (case k18 => first | k_is | rfl)
    (case a19 => first | k_is | rfl)
    (case l19 => first | k_is | rfl)
    (case c19 => first | k_is | rfl)
    (case k19 => first | k_is | rfl)
    (case a20 => first | k_is | rfl)
    (case l20 => first | k_is | rfl)
    (case c20 => first | k_is | rfl)
    (case k20 => first | k_is | rfl)
    (case a21 => first | k_is | rfl)
    (case l21 => first | k_is | rfl)
    (case c21 => first | k_is | rfl)
    (case k21 => first | k_is | rfl)
    (case a22 => first | k_is | rfl)
    (case l22 => first | k_is | rfl)
    (case c22 => first | k_is | rfl)
    (case k22 => first | k_is | rfl)
    (case a23 => first | k_is | rfl)
    (case l23 => first | k_is | rfl)
    (case c23 => first | k_is | rfl)
    (case k23 => first | k_is | rfl)
    (case a24 => first | k_is | rfl)
    (case l24 => first | k_is | rfl)
    (case c24 => first | k_is | rfl)
    (case k24 => first | k_is | rfl)
    (case a25 => first | k_is | rfl)
    (case l25 => first | k_is | rfl)
    (case c25 => first | k_is | rfl)
    (case k25 => first | k_is | rfl)
    (case a26 => first | k_is | rfl)
    (case l26 => first | k_is | rfl)
    (case c26 => first | k_is | rfl)
    (case k26 => first | k_is | rfl)
    (case a27 => first | k_is | rfl)
    (case l27 => first | k_is | rfl)
    (case c27 => first | k_is | rfl)
    (case k27 => first | k_is | rfl)
    (case z0 => first | k_is | rfl)
    (case z1 => first | k_is | rfl)
    (case z2 => first | k_is | rfl)
    (case z3 => first | k_is | rfl)
    (case z4 => first | k_is | rfl)
    (case z5 => first | k_is | rfl)
    (case z6 => first | k_is | rfl)
    (case z7 => first | k_is | rfl)
    (case z8 => first | k_is | rfl)
    (case z9 => first | k_is | rfl)
    (case z10 => first | k_is | rfl)
    (case z11 => first | k_is | rfl)
    (case z12 => first | k_is | rfl)
    (case z13 => first | k_is | rfl)
    (case z14 => first | k_is | rfl)
    (case z15 => first | k_is | rfl)
    (case con0 => first | k_is | rfl)
    (case xl0 => first | k_is | rfl)
    (case xc0 => first | k_is | rfl)
    (case xd0 => first | k_is | rfl)
    (case con1 => first | k_is | rfl)
    (case con2 => first | k_is | rfl)
    (case con3 => first | k_is | rfl)
    (case con4 => first | k_is | rfl)
    (case con5 => first | k_is | rfl)
    (case con6 => first | k_is | rfl)
    (case con7 => first | k_is | rfl)
    (case xl9 => first | k_is | rfl)
    (case xc9 => first | k_is | rfl)
    (case xd9 => first | k_is | rfl)
