import PyProof.Rows.All
import HandS.ForExc
import HandS.Comp
import HandS.Dict
import HandS.Iter
import HandS.Walk
import HandS.Wide
import HandS.Style
import HandS.Rev
import HandS.TupAny
import HandS.TupMul
import HandS.TupSets
import HandS.More
import HandS.IsInst
import HandS.Defaults
import HandS.ExcField
import HandS.ExcInit
import HandS.Evl
import KE.KRevSl
import KE.GoesEnum
import Wide.All
import OpenK.AllK
import Wide.FinOn
import KE.KExcSuper
import HandS.ExcSuper
import HandS.HeadHook4
import KE.KStateDown
import Lean
import HandS.Head0
import HandS.Head1
import HandS.Head2
import HandS.HeadEnd
import HandS.HeadHook1
import HandS.HeadHook2
import HandS.HeadHook3
import PySem.Challenge.RW_slotwise_k60_whole_infinitely_many_by_re
import HandS.Flow
import HandS.MakeKwOnly
section
set_option Elab.async false
set_option linter.all false
set_option autoImplicit false
set_option maxRecDepth 100000
set_option maxHeartbeats 2000000
namespace S
open PySem PySem.Spec PyProof.Rows L2
variable {X : Cx}
/-! ### xs[i] as a read of xs[i] += e -/
def gIxL (K : PySem.W.Frag) : V → V → Hp → VK → Prop := fun x y H Q => ∃ (p : Addr) (xs : List V) (j : Nat) (v : V), x = .ref p ∧ y = .int (j : Int) ∧ SqL K H p xs ∧ xs[j]? = some v ∧ Q v H
theorem get_list : PGet X (gIxL X.K) := by
  intro pins s σ H o i ov iv Q I ro ri h
  obtain ⟨p, xs, j, v, rfl, rfl, hq, hj, q⟩ := h
  cases ro
  obtain ⟨t, rfl⟩ := ri
  obtain ⟨its, r, pl, hz⟩ := I.list hq
  obtain ⟨u, hu, ru⟩ := r.get hj
  have hl := r.length
  have hn := line63
  have hjl : j < xs.length := (List.getElem?_eq_some_iff.mp hj).1
  have fin : EP X pins σ Q u s := ⟨v, H, I, ru, q⟩
  exact wpAny_mono (Q := fun r s' => r = u ∧ EP X pins σ Q r s') (wpAny_getItem_list pl.isList (by omega) (by omega) (by simpa using hu) ⟨rfl, fin⟩) (fun _ _ z => z.2) fun _ _ z => z
/-! ### xs.extend(t), t a tuple -/
theorem list_extend_tup (l : Addr) (items : Array Value) (n : Nat) (b : Addr) (items2 : Array Value) (n2 : Nat) (dd : Option Addr) (sl : Array (Option Value)) (hs0 : ¬(!items.isEmpty && Builtin.List.listTooLong (items.size + items2.size)) = true) (hs1 : items.size ≤ sizeLine) (hs2 : items.size + items2.size ≤ sizeLine + 1) :
    Meets (Builtin.«list.extend» ⟨[.ref l, .ref b], []⟩) (fun _ R s => s.heap.get? l = some { cls := .type "list", dict := none, data := .seq items n, slots := #[] } ∧ s.heap.get? b = some { cls := .type "tuple", dict := dd, data := .seq items2 n2, slots := sl } ∧ R (.ok (.ret Value.none)) { s with heap := s.heap.update l (Obj.mapSeq fun x => x ++ items2), toks := s.toks }) :=
  .of_wp fun prog w A R s h => by
    obtain ⟨hp, g, d, tk, os⟩ := s; obtain ⟨hl, hb, h⟩ := h; have f1 := AutoSeq1.idx_int; have f2 := AutoSeq1.sub_tuple_tuple; have f3 := AutoSeq1.sub_list_list; have f4 := AutoSeq1.sub_tuple_list; have f5 := AutoSeq1.sub_list_tuple;
    have hz' : (items ++ items2).size ≤ sizeLine + 1 := by rw [Array.size_append]; exact hs2
    wp_walk using (wpAny_updateSeq hl rfl (hz := hs1) (_hz' := hz')), wpAny_loadPart' hl, wpAny_loadPart' hb; exact ⟨_, rfl, h⟩
def rExtendT (K : PySem.W.Frag) : V → List V → Hp → VK → Prop := fun x vs H Q => ∃ l b xs zs, x = .ref l ∧ vs = [.ref b] ∧ H l = some (.lst xs) ∧ SqT K H b zs ∧ xs.length + zs.length ≤ sizeLine ∧ Q .non (upd H l (.lst (xs ++ zs)))
theorem mt_extendT : MtM X "list.extend" (rExtendT X.K) := by
  intro pins s σ H x vs v us Q I rx rv h
  obtain ⟨l, b, xs, zs, rfl, rfl, hH, hB, hz, q⟩ := h
  cases rx
  obtain ⟨u, rfl, ru⟩ := rv.one
  cases ru
  obtain ⟨z, its, n, r, hl, e⟩ := I.lstM hH
  obtain ⟨its2, r2, ⟨⟨cls2, dd2, data2, sl2⟩, ho2, hc2, n2, hd2⟩, hz2⟩ := I.tuple hB
  simp only at hc2 hd2
  subst hc2 hd2
  have hl2 := r2.length
  have hsz : its.toArray.size + its2.toArray.size ≤ sizeLine := by rw [List.size_toArray, List.size_toArray]; omega
  have hlong : ¬ (!its.toArray.isEmpty && Builtin.List.listTooLong (its.toArray.size + its2.toArray.size)) = true := by
    rw [notLongL hsz, Bool.and_false]
    exact Bool.false_ne_true
  refine call_meets F.slot_list_extend ⟨_, e, rfl⟩ F.entry_list_extend (F.args_list_extend_2 _ _)
    (list_extend_tup l its.toArray n b its2.toArray n2 dd2 sl2 hlong (by rw [List.size_toArray]; omega) (by omega)) ⟨e, ho2, ?_⟩
  refine ⟨.non, _, I.lset (its' := its ++ its2) hH e (by simp) (r.append r2) ?_, rfl, q⟩
  rw [List.length_append]
  omega
/-! ### t[::-1] -/
section
variable {prog : Program} {w : World} {A : Around} {E : Value → Shared → Prop} {s : Shared}
theorem rev_adjust (n : Nat) : Builtin.Slice.sliceAdjust none none (-1) (n : Int) = ((n : Int) - 1, -1) := by
  unfold Builtin.Slice.sliceAdjust
  have h1 : ((-1 : Int) < 0) := by omega
  simp only [h1, if_true]
theorem rev_places (n : Nat) : Builtin.Slice.slicePlaces ((n : Int) - 1) (-1) (-1) = n := by
  unfold Builtin.Slice.slicePlaces
  have h1 : ¬ ((-1 : Int) > 0) := by omega
  simp only [h1, if_false]
  by_cases h : (n : Int) - 1 > -1
  · rw [if_pos h]
    have e : ((n : Int) - 1 - -1 - 1) / (- -1) + 1 = (n : Int) := by
      rw [show (- -1 : Int) = 1 by decide, Int.ediv_one]
      omega
    rw [e]
    exact Int.toNat_natCast n
  · rw [if_neg h]
    have e : n = 0 := by omega
    subst e
    rfl
theorem fmap_congr {α β : Type} {f g : α → Option β} : ∀ {l : List α}, (∀ k ∈ l, f k = g k) → l.filterMap f = l.filterMap g
  | [], _ => rfl
  | a :: r, h => by
    rw [List.filterMap_cons, List.filterMap_cons, h a List.mem_cons_self, fmap_congr fun k hk => h k (List.mem_cons_of_mem _ hk)]
theorem rev_pick (xs : Array Value) : ((List.range xs.size).filterMap fun (k : Nat) => xs[(((xs.size : Int) - 1) + (k : Int) * (-1)).toNat]?).toArray = xs.toList.reverse.toArray := by
  have e : (List.range xs.size).filterMap (fun (k : Nat) => xs[(((xs.size : Int) - 1) + (k : Int) * (-1)).toNat]?) = ((List.range xs.size).map fun k => xs.size - 1 - k).filterMap (xs[·]?) := by
    rw [List.filterMap_map]
    refine fmap_congr fun k hk => ?_
    have := List.mem_range.mp hk
    have e1 : (((xs.size : Int) - 1) + (k : Int) * (-1)).toNat = xs.size - 1 - k := by omega
    show xs[_]? = xs[_]?
    rw [e1]
  rw [e, PySem.W.krv_range, List.filterMap_reverse, PySem.W.krv_all]
theorem sliceApplied_rev {sl : Addr} {vs : Value} {n : Nat} {Q : Int × Int × Nat → Shared → Prop} (hs : s.heap.IsSliceOf sl .none .none vs) (ps : IsPart vs (some (-1)))
    (h : Q ((n : Int) - 1, -1, n) s) : wpAny (model prog w) A (Builtin.Slice.sliceApplied (.ref sl) (pure (n : Int))) Q E s := by
  obtain ⟨os, hos, hcs, hds⟩ := id hs
  unfold Builtin.Slice.sliceApplied Builtin.Slice.sliceFields
  refine wpAny_bind (wpAny_bind (wpAny_field hos hds (x := .none) rfl (wpAny_bind (wpAny_field hos hds (x := .none) rfl (wpAny_bind (wpAny_field hos hds (x := vs) rfl (wpAny_pure ?_)))))))
  refine wpAny_bind (HT.slicePart_ ps ?_)
  show wpAny _ _ (if ((-1 : Int) == 0) = true then _ else _) _ _ s
  rw [if_neg (by decide)]
  refine wpAny_bind (slicePart_none (wpAny_bind (slicePart_none (wpAny_bind (wpAny_pure ?_)))))
  show wpAny _ _ (match Builtin.Slice.sliceAdjust none none (-1) (n : Int) with | (lo, hi) => pure (lo, (-1 : Int), Builtin.Slice.slicePlaces lo hi (-1))) _ _ s
  rw [rev_adjust n]
  show wpAny _ _ (pure ((n : Int) - 1, (-1 : Int), Builtin.Slice.slicePlaces ((n : Int) - 1) (-1) (-1))) _ _ s
  rw [rev_places]
  exact wpAny_pure h
theorem getItem_tuple_rev {t sl : Addr} {items : Array Value} {vs : Value} {Q : Value → Shared → Prop} (ht : IsTup s.heap t items) (hs : s.heap.IsSliceOf sl .none .none vs) (ps : IsPart vs (some (-1)))
    (h : Q (.ref s.heap.objs.size) { s with heap := s.heap.push { cls := .type "tuple", data := .seq items.toList.reverse.toArray } })
    (hsz : items.size ≤ sizeLine) : wpAny (model prog w) A (getItem (.ref t) (.ref sl)) Q E s := by
  have htake : sizeOk (.seq items.toList.reverse.toArray) := by
    show (items.toList.reverse.toArray).size ≤ sizeLine
    rw [List.size_toArray, List.length_reverse, Array.length_toList]
    omega
  obtain ⟨os, hos, hcs, hds⟩ := id hs
  have hTs : s.TypeIs (.ref sl) "slice" := ⟨os, hos, hcs⟩
  unfold getItem
  try with_reducible refine wpAny_holding ?_
  first | refine wpAny_bind (wpAny_pure ?_) | skip
  refine wpAny_bind (wpAny_sequenceKey ht.typeIs (by decide) ?_)
  refine wpAny_bind (wpAny_callSpecial?_slot (name := Str.ofString "__getitem__") ht.typeIs PyProof.Rows.slot_tuple_getitem
    (wpAny_call_entry PyProof.Rows.slot_tuple_getitem ht.typeIs entry_tuple_getitem ?_ (args_tuple_getitem _ _)))
  show wpAny _ _ (Builtin.Tuple.tupleItemsOf (.ref t) >>= _) _ _ s
  refine wpAny_bind (tupleItemsOf_ ht ?_)
  refine wpAny_bind (wpAny_typeOf hTs ?_)
  rw [if_pos (by decide)]
  refine wpAny_bind (sliceApplied_rev hs ps ?_)
  have hno : ¬ ((((items.size : Int) - 1) == 0 && (-1 : Int) == 1 && items.size == items.size) = true) := by
    intro q
    rw [Bool.and_eq_true, Bool.and_eq_true] at q
    exact absurd q.1.2 (by decide)
  show wpAny _ _ (if (((items.size : Int) - 1) == 0 && (-1 : Int) == 1 && items.size == items.size) = true then _ else _) _ _ s
  rw [if_neg hno, rev_pick]
  first
    | exact wpAny_bind (m := Builtin.Tuple.tupleExact _) (wpAny_newObj_type (wpAny_pure ⟨_, rfl, wpAny_pure h⟩) htake)
    | exact wpAny_bind (m := Builtin.Tuple.tupleExact _) (wpAny_newObj_type (wpAny_bind (wpAny_pure (wpAny_pure ⟨_, rfl, wpAny_pure h⟩))) htake)
    | exact wpAny_bind (wpAny_bind (m := Builtin.Tuple.tupleExact _) (wpAny_newObj_type (wpAny_pure (wpAny_pure ⟨_, rfl, wpAny_pure h⟩)) htake))
    | exact wpAny_bind (wpAny_bind (m := Builtin.Tuple.tupleExact _) (wpAny_newObj_type (wpAny_pure ⟨_, rfl, wpAny_pure h⟩) htake))
end
def tRevT (K : PySem.W.Frag) (te : TE) : TE := fun σ H Q => te σ H fun x H1 => ∃ a xs, x = .ref a ∧ SqT K H1 a xs ∧ ∀ p, H1 p = none → Q (.ref p) (upd H1 p (.tup xs.reverse))
theorem pe_revT {e : Expr} {te : TE} {k : Nat} {p1 p2 p3 pos : Pos} (he : PE X e te) : PE X (.Subscript e (.Slice none none (some (.UnaryOp .USub (.Constant (.int 1) k p1) p2)) p3) pos) (tRevT X.K te) := by
  refine ⟨fun pins s σ H Q I h => ?_⟩
  refine Subscript_ (thn (he.run pins s σ H _ I h) fun v s1 ⟨x, H1, I1, r1, q1⟩ => ?_)
  obtain ⟨a, xs, ex, hx, q⟩ := q1
  subst ex
  cases r1
  have hst : PO X (some (.UnaryOp .USub (.Constant (.int 1) k p1) p2)) (tPart (tUn (rU fun i => .int (-i)) (tC (.int 1)))) := po_some (pe_un un_neg pe_int)
  refine wpAny_Slice (thn (po_none.run pins s1 σ H1 (fun o H2 => o = none ∧ H2 = H1) I1 ⟨rfl, rfl⟩) fun vl s2 ⟨l, H2, I2, pl, el, e2⟩ => ?_)
  subst el e2
  refine thn (po_none.run pins s2 σ H2 (fun o H3 => o = none ∧ H3 = H2) I2 ⟨rfl, rfl⟩) fun vu s3 ⟨u, H3, I3, pu, eu, e3⟩ => ?_
  subst eu e3
  refine thn (hst.run pins s3 σ H3 (fun o H4 => o = some (-1) ∧ H4 = H3) I3 ⟨1, rfl, -1, rfl, rfl, rfl⟩) fun vs s4 ⟨o, H4, I4, ps, eo, e4⟩ => ?_
  subst eo e4
  cases pl
  cases pu
  have I5 : Inv X pins σ H4 { s4 with heap := s4.heap.push { cls := .type "slice", data := .fields #[.none, .none, vs] } } := I4.kept (t' := s4.toks) fun b ob q => Heap.get?_push_of_some _ q
  obtain ⟨its, r, ht, hz⟩ := I5.tuple hx
  have hlen := r.length
  show wpAny (model X.prog X.w) X.A (subscriptTail e (.Slice none none (some (.UnaryOp .USub (.Constant (.int 1) k p1) p2)) p3) (.ref a) (.ref s4.heap.objs.size)) (EP X pins σ Q) X.xe { s4 with heap := s4.heap.push { cls := .type "slice", data := .fields #[.none, .none, vs] } }
  refine tail_any (ops := [.ref a, .ref s4.heap.objs.size]) ht.typeIs (PyProof.Rows.slot_tuple_getitem.lookup) ?_ (by with_unfolding_all rfl)
  refine getItem_tuple_rev ht (Heap.IsSliceOf.new _ .none .none vs) ps ?_ (by rw [List.size_toArray]; omega)
  refine ⟨.ref _, _, I5.laid (t' := s4.toks) (o := .tup xs.reverse) (fun b ob q => Heap.get?_push_of_some _ q) (Nat.le_refl _) ?_, rfl, q _ (I5.hok.fresh (Nat.le_refl _))⟩
  exact ⟨by rw [List.length_reverse]; exact hz, _, r.reverse, IsTup.new _ _⟩
/-! ### t * k -/
theorem tuple_mul_one (l : Addr) (items : Array Value) (n : Nat) (dd : Option Addr) (sl : Array (Option Value)) (x : Int) (u : Tok) (c0 : (decide (x < -(2 ^ 63)) || decide (x ≥ 2 ^ 63)) = false) (c1 : (items.isEmpty || x == 1) = true) :
    Meets (Builtin.«tuple.__mul__» ⟨[.ref l, .int x u], []⟩) (fun _ R s => s.heap.get? l = some { cls := .type "tuple", dict := dd, data := .seq items n, slots := sl } ∧ R (.ok (.ret (Value.ref l))) s) :=
  .of_wp fun prog w A R s h => by
    obtain ⟨hp, g, d, tk, os⟩ := s
    obtain ⟨hl, h⟩ := h
    have f1 := AutoSeq1.idx_int
    wp_walk using wpAny_loadPart' hl
    repeat (first
      | (refine wpAny_ite_false (decide_eq_false (by rw [c0]; exact Bool.false_ne_true)) ?_; wp_walk using wpAny_loadPart' hl)
      | (refine wpAny_ite_true (decide_eq_true c1) ?_; wp_walk using wpAny_loadPart' hl))
    exact ⟨_, rfl, h⟩
theorem tuple_mul_none (l : Addr) (items : Array Value) (n : Nat) (dd : Option Addr) (sl : Array (Option Value)) (x : Int) (u : Tok) (c0 : (decide (x < -(2 ^ 63)) || decide (x ≥ 2 ^ 63)) = false) (c1 : (items.isEmpty || x == 1) = false) (c2 : (decide (x ≤ 0) || items.isEmpty) = true) :
    Meets (Builtin.«tuple.__mul__» ⟨[.ref l, .int x u], []⟩) (fun _ R s => s.heap.get? l = some { cls := .type "tuple", dict := dd, data := .seq items n, slots := sl } ∧
      R (.ok (.ret (Value.ref s.heap.objs.size))) { s with heap := s.heap.push { cls := Value.type "tuple", data := Data.seq #[] }, toks := s.toks }) :=
  .of_wp fun prog w A R s h => by
    obtain ⟨hp, g, d, tk, os⟩ := s
    obtain ⟨hl, h⟩ := h
    have f1 := AutoSeq1.idx_int
    wp_walk using wpAny_loadPart' hl
    repeat (first
      | (refine wpAny_ite_false (decide_eq_false (by rw [c0]; exact Bool.false_ne_true)) ?_; wp_walk using wpAny_loadPart' hl)
      | (refine wpAny_ite_false (decide_eq_false (by rw [c1]; exact Bool.false_ne_true)) ?_; wp_walk using wpAny_loadPart' hl)
      | (refine wpAny_ite_true (decide_eq_true c2) ?_; wp_walk using wpAny_loadPart' hl))
    exact ⟨_, rfl, h⟩
/-- t * k: some tuple of the repeated items -/
def rRepA (K : PySem.W.Frag) : R2 := fun x y H Q => ∃ l k xs, x = .ref l ∧ y = .int k ∧ SqT K H l xs ∧ 0 ≤ k ∧ k ≤ 1000 ∧ xs.length ≤ 1000 ∧
  ((xs = [] ∨ k = 1) → Q (.ref l) H) ∧ (¬ (xs = [] ∨ k = 1) → ∀ p, H p = none → Q (.ref p) (upd H p (.tup (List.replicate k.toNat xs).flatten)))
theorem op_repA : OpR X (binaryOp .Mult) (rRepA X.K) := by
  intro pins s σ H x y v u Q I rx ry h
  obtain ⟨l, k, xs, rfl, rfl, hT, h1, h2, hz, q1, q2⟩ := h
  by_cases hc : xs = [] ∨ k = 1
  · cases rx
    obtain ⟨t, rfl⟩ := ry
    obtain ⟨its, r, ⟨⟨cls, dd, data, sl⟩, ho, hc', n, hd⟩, hs⟩ := I.tuple hT
    simp only at hc' hd
    subst hc' hd
    have c0 : (decide (k < -(2 ^ 63)) || decide (k ≥ 2 ^ 63)) = false := by
      rw [decide_eq_false (by omega), decide_eq_false (by omega)] <;> rfl
    have c1 : (its.toArray.isEmpty || k == 1) = true := by
      rcases hc with e | e
      · subst e
        cases r
        rfl
      · rw [e]
        exact Bool.or_true _
    exact wpAny_binaryOp_repeat_ref (T := "tuple") (U := "int") (by decide) ⟨_, ho, rfl⟩ (fun s' => typeIs_int s' k t) noFill_tuple_mul F.fills_int_mul F.slot_int_rmul repeat_tuple F.slot_int_index.lookup
      (call_meets F.slot_int_rmul (typeIs_int s k t) F.entry_int_rmul (F.args_int_rmul_2 _ _) (int_rmul_tuple k t l its.toArray n dd sl)
        ⟨ho, rfl, ⟨_, ho, rfl⟩, call_meets F.slot_tuple_mul ⟨_, ho, rfl⟩ F.entry_tuple_mul (F.args_tuple_mul_2 _ _) (tuple_mul_one l its.toArray n dd sl k t c0 c1) ⟨ho, ⟨.ref l, H, I, rfl, q1 hc⟩⟩⟩)
  · have hne : xs ≠ [] := fun e => hc (.inl e)
    have hk : k ≠ 1 := fun e => hc (.inr e)
    by_cases h0 : k = 0
    · subst h0
      cases rx
      obtain ⟨t, rfl⟩ := ry
      obtain ⟨its, r, ⟨⟨cls, dd, data, sl⟩, ho, hc', n, hd⟩, hs⟩ := I.tuple hT
      simp only at hc' hd
      subst hc' hd
      have hi : its.toArray.isEmpty = false := by
        cases r with
        | nil => exact absurd rfl hne
        | cons a b => rfl
      refine wpAny_binaryOp_repeat_ref (T := "tuple") (U := "int") (by decide) ⟨_, ho, rfl⟩ (fun s' => typeIs_int s' 0 t) noFill_tuple_mul F.fills_int_mul F.slot_int_rmul repeat_tuple F.slot_int_index.lookup
        (call_meets F.slot_int_rmul (typeIs_int s 0 t) F.entry_int_rmul (F.args_int_rmul_2 _ _) (int_rmul_tuple 0 t l its.toArray n dd sl)
          ⟨ho, rfl, ⟨_, ho, rfl⟩, call_meets F.slot_tuple_mul ⟨_, ho, rfl⟩ F.entry_tuple_mul (F.args_tuple_mul_2 _ _) (tuple_mul_none l its.toArray n dd sl 0 t rfl (by rw [hi] <;> rfl) rfl) ⟨ho, ?_⟩⟩)
      refine ⟨.ref s.heap.objs.size, _, I.laid (t' := s.toks) (o := .tup (List.replicate (0 : Int).toNat xs).flatten) (fun b ob q => Heap.get?_push_of_some _ q) (Nat.le_refl _) ?_, rfl, q2 hc _ (I.hok.fresh (Nat.le_refl _))⟩
      exact ⟨Nat.zero_le _, [], .nil, IsTup.new _ _⟩
    · exact op_repT pins s σ H _ _ v u Q I rx ry ⟨l, k, xs, rfl, rfl, hT, hne, by omega, h2, hz, q2 hc⟩
/-! ### a op b op c op d, as a test -/
def tChain3 (r r' r'' : R2) (ta tb tc td : TE) : TE := fun σ H Q => ta σ H fun x H1 => tb σ H1 fun y H2 => r x y H2 fun z H3 => ∃ k, z = .bl k ∧
  (if k = true then tc σ H3 fun w' H4 => r' y w' H4 fun z' H5 => ∃ k', z' = .bl k' ∧ (if k' = true then td σ H5 fun d' H6 => r'' w' d' H6 Q else Q (.bl false) H5) else Q (.bl false) H3)
theorem pt_chain3 {a b c d : Expr} {ta tb tc td : TE} {pos : Pos} {op op' op'' : CmpOp} {r r' r'' : R2} (ho : OpR X (compareOp op) r) (ho' : OpR X (compareOp op') r') (ho'' : OpR X (compareOp op'') r'') (ha : PE X a ta) (hb : PE X b tb) (hc : PE X c tc) (hd : PE X d td)
    (hm : lastMarks [op, op', op''] [b, c, d] = false := by with_unfolding_all rfl) : PT X (.Compare a [op, op', op''] [b, c, d] pos) (tTest (tChain3 r r' r'' ta tb tc td)) := by
  refine ⟨fun pins s σ H Q I h => ?_⟩
  refine isTrue_chain (thn (ha.run pins s σ H _ I h) fun v s1 ⟨x, H1, I1, r1, q1⟩ => test_link (thn (hb.run pins s1 σ H1 _ I1 q1) fun u s2 ⟨y, H2, I2, r2, q2⟩ =>
    thn (ho pins s2 σ H2 x y v u _ I2 r1 r2 q2) fun e s3 ⟨z, H3, I3, r3, k, ek, q3⟩ => ?_)) hm
  subst ek
  cases r3
  refine wpAny_truthy_bool ?_
  cases k with
  | false =>
    obtain ⟨k', e', q'⟩ := q3
    cases e'
    exact ite_ff ⟨H3, I3, q'⟩
  | true =>
    refine ite_tt (test_link (thn (hc.run pins s3 σ H3 _ I3 q3) fun w' s4 ⟨z', H4, I4, r4, q4⟩ => thn (ho' pins s4 σ H4 y z' u w' _ I4 r2 r4 q4) fun d' s5 ⟨z2, H5, I5, r5, k2, e2, q5⟩ => ?_))
    subst e2
    cases r5
    refine wpAny_truthy_bool ?_
    cases k2 with
    | false =>
      obtain ⟨k', e', q'⟩ := q5
      cases e'
      exact ite_ff ⟨H5, I5, q'⟩
    | true =>
      refine ite_tt (test_last (thn (hd.run pins s5 σ H5 _ I5 q5) fun w2 s6 ⟨z3, H6, I6, r6, q6⟩ => thn (ho'' pins s6 σ H6 z' z3 w' w2 _ I6 r4 r6 q6) fun d2 s7 ⟨z4, H7, I7, r7, k3, e3, q7⟩ => ?_))
      subst e3
      cases r7
      exact wpAny_truthy_bool ⟨H7, I7, q7⟩
end S
end

section
set_option Elab.async false
set_option linter.all false
set_option autoImplicit false
set_option maxRecDepth 100000
set_option maxHeartbeats 2000000
namespace S
open PySem PySem.Spec PyProof.Rows L2
open AutoSeq1 (wpAny_loadPart')
/-! ### enumerate(t), t a tuple -/
theorem meets_enumerate_newT (l : Addr) (items : Array Value) (n : Nat) (dct : Option Addr) (sl : Array (Option Value)) :
    Meets (Builtin.«enumerate.__new__» ⟨[.type "enumerate", .ref l], []⟩) (fun _ R s => s.heap.get? l = some { cls := .type "tuple", dict := dct, data := .seq items n, slots := sl } ∧
      R (.ok (.ret (.ref (s.heap.push { cls := .type "tuple_iterator", data := .fields #[.ref l, .int 0 0] }).objs.size)))
        { s with heap := (s.heap.push { cls := .type "tuple_iterator", data := .fields #[.ref l, .int 0 0] }).push { cls := .type "enumerate", data := .fields #[.none, .bool false, .ref s.heap.objs.size, rawInt 0, .none, .none] } }) :=
  .of_wp fun prog w A R s h => by
    obtain ⟨hp, g, d, tk, os⟩ := s; obtain ⟨hl, h⟩ := h
    have hsub := sub_enumerate
    have hL : Heap.IsTuple (Shared.heap ⟨hp, g, d, tk, os⟩) l items := ⟨_, hl, rfl, n, rfl⟩
    wp_walk using wpAny_loadPart' hl
    refine wpAny_stack_any fun st => wpAny_pure ?_
    split
    · rename_i c _ _ _ _ _
      cases (c == Value.type "enumerate")
      · wp_walk using wpAny_loadPart' hl, wpAny_pyIter_tuple hL
        exact ⟨_, rfl, h⟩
      · wp_walk using wpAny_loadPart' hl, wpAny_pyIter_tuple hL
        exact ⟨_, rfl, h⟩
    · wp_walk using wpAny_loadPart' hl, wpAny_pyIter_tuple hL
      exact ⟨_, rfl, h⟩
theorem call_enumerate_tup {prog : Program} {w : World} {A : Around} {E : Value → Shared → Prop} {s : Shared} {l : Addr} {items : Array Value} {Q : Value → Shared → Prop} (hL : s.heap.IsTuple l items)
    (h : ∀ h', IsEnum h' (s.heap.objs.size + 1) s.heap.objs.size 0 .none → h'.IsTupleIter s.heap.objs.size l 0 → h'.objs.size = s.heap.objs.size + 2 →
      (∀ b o, s.heap.get? b = some o → h'.get? b = some o) → Q (.ref (s.heap.objs.size + 1)) { s with heap := h' }) :
    wpAny (model prog w) A (call (.type "enumerate") [.ref l]) Q E s := by
  obtain ⟨⟨c, dct, dt, sl⟩, hl, hc, n, hd⟩ := hL
  replace hc : c = .type "tuple" := hc
  replace hd : dt = .seq items n := hd
  subst hc hd
  refine callType_new F.called_enumerate (by decide) (F.typeCall_enumerate_1 _) (F.newCall_enumerate_1 _) (fun obj => F.args_object_init_2 obj _) F.entry_enumerate_new
    (meets_enumerate_newT l items n dct sl) ⟨hl, ?_⟩
  have hz : (s.heap.push { cls := .type "tuple_iterator", data := .fields #[.ref l, .int 0 0] }).objs.size = s.heap.objs.size + 1 := Heap.size_push ..
  show _ ∧ _
  rw [hz]
  have he : IsEnum ((s.heap.push { cls := .type "tuple_iterator", data := .fields #[.ref l, .int 0 0] }).push
      { cls := .type "enumerate", data := .fields #[.none, .bool false, .ref s.heap.objs.size, rawInt 0, .none, .none] }) (s.heap.objs.size + 1) s.heap.objs.size 0 .none := by
    have := Heap.get?_push_size (s.heap.push { cls := .type "tuple_iterator", data := .fields #[.ref l, .int 0 0] })
      (o := { cls := .type "enumerate", data := .fields #[.none, .bool false, .ref s.heap.objs.size, rawInt 0, .none, .none] }) rfl
    rw [hz] at this; exact this
  refine ⟨⟨_, he, rfl⟩, h _ he ⟨_, Heap.get?_push_of_some _ (Heap.get?_push_size _ rfl), rfl, rfl⟩ (by rw [Heap.size_push, hz]) fun b o x => Heap.get?_push_of_some _ (Heap.get?_push_of_some _ x)⟩
def IteT (K : PySem.W.Frag) (a : Addr) : It :=
  ⟨fun i H => ∃ (xs : List V) (x : V), SqT K H a xs ∧ xs[i]? = some x, fun i H v H' => ∃ T x, v = .ref T ∧ H T = none ∧ H' = upd H T (.tup [.int (i : Nat), x]) ∧ ∀ xs, SqT K H a xs → xs[i]? = some x, fun i H => ∃ xs : List V, SqT K H a xs ∧ xs.length = i⟩
theorem turn_enumT {P : Program} {w : World} {K : PySem.W.Frag} {elts : List Expr} {kk : Nat} {tpos : Pos} (a e it : Addr) :
    Turn P w K (.Tuple elts kk tpos) (IteT K a) [e, it] e (fun i h => (∃ old, IsEnum h e it ((i : Nat) : Int) old) ∧ h.IsTupleIter it a i ∧ e ≠ it) where
  mem := by simp
  obj := fun i h st b hb => by
    obtain ⟨⟨old, he⟩, ⟨o, ho, hc, hd⟩, _⟩ := st
    have e' : b = e ∨ b = it := by simpa using hb
    rcases e' with z | z
    · rw [z]; exact ⟨_, he, fun v q => nomatch q⟩
    · rw [z]; exact ⟨o, ho, fun v q => by rw [hd] at q; cases q⟩
  keep := fun i h h' st k => let ⟨⟨old, he⟩, hi, hne⟩ := st; ⟨⟨old, k e (by simp) _ he⟩, hi.at fun o q => k it (by simp) o q, hne⟩
  item := by
    intro X hP hw hK hc i pins s σ H E I hf st hg
    subst hP hw hK
    obtain ⟨⟨old, he⟩, hit, hne⟩ := st
    obtain ⟨xs, x, hq, hx⟩ := hg
    obtain ⟨its, rv, p, hz⟩ := I.tuple hq
    have pt : s.heap.IsTuple a its.toArray := p
    have hia : a ≠ it := by
      obtain ⟨o1, h1, c1, _⟩ := pt
      obtain ⟨o2, h2, c2, _⟩ := hit
      intro z
      rw [z, h2] at h1
      have z2 := Option.some.inj h1
      rw [← z2, c2] at c1
      exact absurd c1 (by simp)
    have hea : a ≠ e := by
      obtain ⟨o1, h1, c1, _⟩ := pt
      intro z
      rw [z, he] at h1
      have z2 := Option.some.inj h1
      rw [← z2] at c1
      exact absurd c1 (by simp)
    obtain ⟨u, hu, ru⟩ := rv.get hx
    have hel : e < s.heap.objs.size := Heap.lt_size he
    have hil : it < s.heap.objs.size := by obtain ⟨_, q, _⟩ := hit; exact Heap.lt_size q
    have hlen := rv.length
    have hxl : i < xs.length := (List.getElem?_eq_some_iff.mp hx).1
    refine wpAny_pyNext_enum_itemD (Draws.tuple (show X.A.in1.handled = none from I.ok.hd hc) it a hia its.toArray) he ⟨hit, pt⟩ (by rw [List.size_toArray]; omega) hne (by simp [hne, Ne.symm hea]) fun x' h' tk hP ho hst' hT hsz hk => ?_
    obtain ⟨hit', pt'⟩ := hst'
    have exu : x' = u := by
      have z : its.toArray[i]? = some u := by simpa using hu
      rw [z] at hP
      exact (Option.some.inj hP).symm
    subst exu
    refine ⟨_, rfl, wpAny_letOwnedTupleGo_enum (s := { s with heap := h', toks := tk + 1 }) ho fun h'' he' sb => ?_⟩
    have hT2 : h''.get? s.heap.objs.size = some { cls := .type "tuple", data := .seq #[.int i tk, x'] } := (sb.2 _ (Nat.ne_of_gt hel)).trans hT
    have new : ObjOk X.prog X.w (upd H s.heap.objs.size (.tup [.int (i : Nat), x])) h'' s.heap.objs.size (.tup [.int (i : Nat), x]) :=
      ⟨by show 2 ≤ sizeLine; decide, [.int i tk, x'], .cons ⟨_, rfl⟩ (.cons ru .nil), ⟨_, hT2, rfl, _, rfl⟩⟩
    have I1 : Inv X pins σ (upd H s.heap.objs.size (.tup [.int (i : Nat), x])) { s with heap := h'', toks := tk + 1 } :=
      I.turnedNew (ch := [e, it]) (fun b ob hb q => (sb.2 b (fun z => hb (by simp [z]))).trans (hk b ob (fun z => hb (by simp [z])) (fun z => hb (by simp [z])) q)) hf (Nat.le_refl _) new
    refine ⟨.ref s.heap.objs.size, _, I1, rfl, ⟨_, x, rfl, I.hok.fresh (Nat.le_refl _), rfl, fun ys hy => by rw [I.tuple_inj hy hq]; exact hx⟩, ⟨⟨x', ?_⟩, hit'.at fun o q => (sb.2 it (Ne.symm hne)).trans q, hne⟩, fun b hb => ?_⟩
    · have e1 : ((i + 1 : Nat) : Int) = (i : Int) + 1 := by omega
      rw [e1]; exact he'
    · have hb' : b < s.heap.objs.size := by
        have e' : b = e ∨ b = it := by simpa using hb
        rcases e' with z | z
        · rw [z]; exact hel
        · rw [z]; exact hil
      rw [upd_ne (Nat.ne_of_lt hb')]
      exact (hf b hb).1
  done := by
    intro X hP hw hK hc i pins s σ H E I hf st hg
    subst hP hw hK
    obtain ⟨⟨old, he⟩, hit, hne⟩ := st
    obtain ⟨xs, hq, hx⟩ := hg
    obtain ⟨its, rv, p, hz⟩ := I.tuple hq
    have pt : s.heap.IsTuple a its.toArray := p
    have hia : a ≠ it := by
      obtain ⟨o1, h1, c1, _⟩ := pt
      obtain ⟨o2, h2, c2, _⟩ := hit
      intro z
      rw [z, h2] at h1
      have z2 := Option.some.inj h1
      rw [← z2, c2] at c1
      exact absurd c1 (by simp)
    obtain ⟨f0, f1, f2, f3, f4, f5⟩ := hf it (by simp)
    have hl := rv.length
    have es : its.toArray.size = i := by rw [List.size_toArray]; omega
    have st2 : s.heap.IsTupleIter it a its.toArray.size ∧ s.heap.IsTuple a its.toArray := by rw [es]; exact ⟨hit, pt⟩
    exact wpAny_pyNext_enum_endD (Draws.tuple (show X.A.in1.handled = none from I.ok.hd hc) it a hia its.toArray) he st2 fun h' eb => ⟨rfl, I.turned (t' := s.toks) (fun b o hb q => eb b o hb q) f0 f1 f3 f4 f5⟩
  self := fun A i s Q E st h => let ⟨⟨old, he⟩, _⟩ := st; wpAny_pyIter_enum he h
def iEnumT (K : PySem.W.Frag) (ta : TA) : TI := fun σ H R => ta σ H fun vs H1 => ∃ a xs, vs = [.ref a] ∧ SqT K H1 a xs ∧ R (IteT K a) H1
theorem pi_enumT {X : Cx} {e : Expr} {ta : TA} {p pos tpos : Pos} {elts : List Expr} {kk : Nat} (hg : Gl X "enumerate") (hm : X.mg "enumerate" = none) (ha : PA X [e] ta) (hs : starEach [e] X.env = [(false, eval e X.env)] := by rfl) :
    PI X (.Tuple elts kk tpos) (.Call (.Name "enumerate" p) [e] [] pos) (iEnumT X.K ta) := by
  refine ⟨fun pins s σ H R I h => ?_⟩
  refine Call_ (ld_blt I hg hm boot_enumerate (PyProof.Rows.callWith_type1 (thn (ha.run pos pins s σ H _ I h) fun us s1 ⟨vs, H1, I1, r1, q1⟩ => ?_) hs rfl))
  obtain ⟨a, xs, ex, hq, q⟩ := q1
  subst ex
  cases r1 with
  | cons r rr =>
    cases rr
    cases r
    obtain ⟨its, rv, p', hz⟩ := I1.tuple hq
    refine call_enumerate_tup (show s1.heap.IsTuple a its.toArray from p') fun h' he hit hsz hk => wpAny_pyIter_enum he ?_
    have I2 : Inv X pins σ H1 { s1 with heap := h' } := I1.kept (t' := s1.toks) hk
    refine ⟨s1.heap.objs.size + 1, [s1.heap.objs.size + 1, s1.heap.objs.size], _, _, H1, rfl, I2, turn_enumT a (s1.heap.objs.size + 1) s1.heap.objs.size, ⟨⟨.none, he⟩, hit, Nat.succ_ne_self _⟩, fun b hb => ?_, q⟩
    have e' : b = s1.heap.objs.size + 1 ∨ b = s1.heap.objs.size := by simpa using hb
    have hle : s1.heap.objs.size ≤ b := by
      rcases e' with z | z
      · rw [z]; exact Nat.le_add_right _ _
      · rw [z]; exact Nat.le_refl _
    exact I1.fpOk hle (I1.hok.fresh hle)
theorem walk_enumT {K : PySem.W.Frag} {a : Addr} {xs : List V} : Walk (IteT K a) xs.length (fun H => SqT K H a xs) (YPair (fun i => some (.int (i : Nat))) (fun i => xs[i]?)) := by
  refine ⟨fun i _ hi q => ⟨xs, xs[i], q, by simp [hi]⟩, fun _ q => ⟨xs, q, rfl⟩, fun i H v H' _ q y => ?_⟩
  obtain ⟨T, x, h1, h2, h3, h4⟩ := y
  exact ⟨T, .int (i : Nat), x, h1, h2, h3, rfl, h4 xs q⟩
end S
end

section
set_option Elab.async false
set_option linter.all false
set_option autoImplicit false
set_option maxRecDepth 100000
set_option maxHeartbeats 4000000
namespace S
open PySem PySem.W PySem.Calls PyProof.Rows PySem.HandSPX
/-! ### the text of TooManyParts.__init__ -/
def iA : Arguments := { posonlyargs := [], args := [{ arg := "self", annotation := none, pos := ⟨6, 17, 6, 21⟩ }, { arg := "count", annotation := none, pos := ⟨6, 23, 6, 28⟩ }], vararg := none, kwonlyargs := [], kw_defaults := [], kwarg := none, defaults := [] }
def iB : List Stmt := [.Expr (.Call (.Attribute (.Call (.Name "super" ⟨7, 8, 7, 13⟩) [] [] ⟨7, 8, 7, 15⟩) "__init__" ⟨7, 8, 7, 24⟩) [.Constant (.str "too many parts") 0 ⟨7, 25, 7, 41⟩] [] ⟨7, 8, 7, 42⟩) ⟨7, 8, 7, 42⟩,
  .Assign [.Attribute (.Name "self" ⟨8, 8, 8, 12⟩) "count" ⟨8, 8, 8, 18⟩] (.Name "count" ⟨8, 21, 8, 26⟩) ⟨8, 8, 8, 26⟩]
def iS : Scope := { kind := .function, names := [(PySem.Str.ofString "self", .local), (PySem.Str.ofString "count", .local), (PySem.Str.ofString "__class__", .free), (PySem.Str.ofString "super", .globalImplicit)], isGenerator := false, isCoroutine := false, more := [] }
/-- what is asked of the program -/
structure PrgOk (P : Program) : Prop where
  file : P.main.file = "/claim/cut.py"
  nosup : (P.main.scope.names.lookup ("super" : Str)).isSome = false
/-- what the written part says of TooManyParts, at C, of its __init__, at fI, of the cell, at cc -/
structure PtTxt (K : Frag) (C fI cc : Addr) : Prop where
  cls : ∃ nm q N bs bm sn sub ab col dd k0 k1 k2 k3 k5, K.lookup C = some (excClassObj nm q C N bs bm true sn sub ab col dd k0 k1 k2 k3 k5 "ValueError.__new__") ∧ refsVE bm = true
  sa : findIn K (.ref C) "__setattr__" = some (some (.builtin "object.__setattr__"))
  noN : findIn K (.ref C) "count" = some none
  iC : findIn K (.ref C) "__init__" = some (some (.ref fI))
  tC : typeIn K (.ref fI) = some (.type "function")
  kC : keepIn K (.ref C) = true
  exC : subIn K (.ref C) (.type "BaseException") = some true
  veC : subIn K (.ref C) (.type "ValueError") = some true
  tyC : typeIn K (.ref C) = some (.type "type")
  sup : ks_superIn K C C "__init__" = some (some (.builtin "ValueError.__init__"))
  own : mroIn K C (.ref C) = some true
  opq : nsIn K cStatics "thirdparty.any" = some none
  cell : ∃ cl cld csl, K.lookup cc = some ⟨cl, cld, .cell (some (.ref C)), csl⟩
  fn : ∃ (oc : Value) (od : Option Addr) (doc pm : Value) (an : Option Addr) (cda : Addr) (ct : Value) (osl : Array (Option Value)) (ccl : Value) (cdd : Option Addr) (vs : Array Value) (ccs : Array (Option Value)) (tf : Tok),
    K.lookup fI = some ⟨oc, od, .func (fnX "__init__" "TooManyParts.__init__" iA iB iS [("__class__", cc)] .none .none doc pm an (.ref cda) ct), osl⟩ ∧ codeIn K (.ref cda) "TooManyParts.__init__" = true ∧ K.lookup cda = some ⟨ccl, cdd, .fields vs, ccs⟩ ∧ vs[2]? = some (.str "/claim/cut.py" tf)
section
variable {prog : Program} {w : World} {A : Around} {E : Value → Shared → Prop} {h : Heap} {g : Array GenState} {d : Drawn} {t : Nat} {os : OsState}
variable {nm q : Str} {C N : Addr} {bs bm : List Value} {hdct : Bool} {sn : List Str} {sub : List Value} {ab : Bool} {col : Option Bool} {dd : Option Addr} {k0 k1 k2 k3 k5 : Option Value}
theorem call_mw {u e t0 : Addr} {rest : List Value} {Q : Value → Shared → Prop}
    (hC : h.get? C = some (excClassObj nm q C N bs bm hdct sn sub ab col dd k0 k1 k2 k3 k5 "ValueError.__new__")) (he : h.get? e = some (excO C t0)) (hu : h.get? u = some (kxs_mw "ValueError.__init__" e)) (hrest : rest.length ≤ sizeLine)
    (hq : ∀ h' t1, (∀ b o, b ≠ e → h.get? b = some o → h'.get? b = some o) → h'.get? e = some (excO C t1) → Q .none ⟨h', g, d, t, os⟩) :
    wpAny (model prog w) A (call (.ref u) rest) Q E ⟨h, g, d, t, os⟩ := by
  refine wpAny_call (codeAny_of_tree ?_)
  show wpAny _ A.in1 (callAny (.ref u) ⟨rest, []⟩) _ _ _
  simp only [callAny]
  refine wpAny_bind (wpAny_load hu ?_)
  simp only [kxs_mw, show (Value.type "method-wrapper" == Value.type "method" || Value.type "method-wrapper" == Value.type "builtin_function_or_method" || Value.type "method-wrapper" == Value.type "method-wrapper") = true by decide, if_true]
  refine W.KFB.if_so (by decide) ?_
  refine wpAny_bind (ESX.check_bound F.excBase_ValueError hC he rfl ?_)
  refine wpAny_bind (wpAny_pure (wpAny_pure ?_))
  refine ⟨plainId_quiet F.excBase_ValueError.init.plain _, codeAny_builtin F.excBase_ValueError.initEntry ?_⟩
  rw [Around.under_plainId F.excBase_ValueError.init.plain _]
  wp_walk
  refine hq _ h.objs.size (fun b o hb ho => ?_) ?_
  · rw [Heap.get?_update_other _ _ (Ne.symm hb)]
    exact Heap.get?_push_of_some _ ho
  · rw [Heap.get?_update_self _ (Heap.get?_push_of_some _ he) rfl]
    rfl
end
/-- what __init__ leaves of a fresh exception at x -/
structure PtInit (h h' : Heap) (x C dx t1 : Addr) (v : Value) : Prop where
  keep : ∀ b o, b ≠ x → h.get? b = some o → h'.get? b = some o
  obj : h'.get? x = some { cls := .ref C, dict := some dx, data := .fields #[.ref t1, .none, .none, .none, .bool false, .none] }
  dbig : h.objs.size ≤ dx
  dne : dx ≠ x
  ns : h'.Ns1 dx (fun y => if y = "count" then some v else none)
structure PtMade (h h' : Heap) (e C d : Addr) (v : Value) : Prop where
  keep : ∀ b o, h.get? b = some o → h'.get? b = some o
  new : h.objs.size ≤ e
  obj : ∃ oe vs, h'.get? e = some oe ∧ oe.cls = .ref C ∧ oe.dict = some d ∧ oe.data = .fields vs ∧ vs[1]? = some .none
  dbig : h.objs.size ≤ d
  dne : d ≠ e
  ns : h'.Ns1 d (fun y => if y = "count" then some v else none)
section
variable {prog : Program} {w : World} {A : Around} {E : Value → Shared → Prop} {R : Result → Shared → Prop} {s : Shared} {K : Frag} {mg mb : Str → Option Value} {C fI cc : Addr}
theorem pt_init (T : PtTxt K C fI cc) (hP : PrgOk prog) {x t0 : Addr} {v : Value} (X : K.In s.heap) (hlim : s.heap.NoLimit) (hg : s.heap.Ns mainGlobals mg) (hsup : mg "super" = none) (hb : s.heap.Ns builtinsNs mb) (hbs : mb "super" = some (.type "super"))
    (hx : s.heap.get? x = some (excO C t0)) (hnx : K.lookup x = none) (hroom : A.depth < recursionLimit) (hxC : x ≠ C)
    (hq : ∀ h' tk dx t1, PtInit s.heap h' x C dx t1 v → R (.ok (.ret .none)) { s with heap := h', toks := tk }) :
    codeAny (model prog w) A (.call (.ref fI) ⟨[.ref x, v], []⟩) R s := by
  obtain ⟨oc, od, doc, pm, an, cda, ct, osl, ccl, cdd, vs, ccs, tf, ho, hcd, hcda, hvs⟩ := T.fn
  obtain ⟨nm, q, N, bs, bm, sn, sub, ab, col, dd, k0, k1, k2, k3, k5, hC, hbm⟩ := T.cls
  obtain ⟨cl, cld, csl, hcell⟩ := T.cell
  have hcl : clsIn K C = some { name := nm, bases := bs, mro := .ref C :: bm, ns := N, qualname := q, hasDict := true, slotNames := sn, subclasses := sub, abstract := ab, collection := col, hasDel := false } := by unfold clsIn; rw [hC] <;> rfl
  refine ks_codeAny_call_defAt (fd := fnX "__init__" "TooManyParts.__init__" iA iB iS [("__class__", cc)] .none .none doc pm an (.ref cda) ct) (body := iB) (binds := [("self", .ref x), ("count", v)]) hroom (X _ _ ho) rfl hlim (codeRec_of X hcd) rfl
    (BindsTo.of_eq (by first | rfl | with_unfolding_all rfl)) (by show ∀ y ∈ iS.names, y.2 ≠ NameKind.cell; decide) (fun y hy => by
      rcases List.mem_cons.mp hy with rfl | hy
      · rfl
      rcases List.mem_cons.mp hy with rfl | hy
      · rfl
      · exact absurd hy List.not_mem_nil) (fun h₁ hn k => ?_)
  have X₁ : K.In h₁ := X.keeps k
  have hx₁ := k _ _ hx
  have hC₁ := X₁ _ _ hC
  have I₁ : InstAt h₁ x (excO C t0) C none := ⟨hx₁, rfl, rfl, trivial⟩
  have hxL : s.heap.objs.size ≠ x := Nat.ne_of_gt (Heap.lt_size hx)
  refine ks_wpAt_execs_cons (ks_wpAt_Expr_any (ks_wpAt_MethodCall ?_))
  refine ks_wpAt_super_base (env := callEnv (fnX "__init__" "TooManyParts.__init__" iA iB iS [("__class__", cc)] .none .none doc pm an (.ref cda) ct) s.heap.objs.size fI) rfl rfl rfl rfl (X₁ _ _ ho) rfl rfl rfl (X₁ _ _ hcda) rfl hvs (by rw [hP.file] <;> decide) hP.nosup ?_
  refine ks_loadName_global rfl rfl (loadGlobal_builtin (hg.keeps k) hsup (hb.keeps k) hbs ⟨rfl, ?_⟩)
  refine wpAny_loadName_free rfl rfl rfl ⟨_, X₁ _ _ hcell, rfl⟩ ?_
  refine wpAny_loadName_local rfl rfl hn rfl ?_
  refine ks_wpAny_isType_cls hC₁ rfl ⟨rfl, ?_⟩
  refine ks_wpAny_call_super hC₁ rfl hx₁ rfl (fun c e => by cases e) (looks_mroIn X₁ T.own) (fun h₂ e₂ k₂ => ?_)
  have X₂ : K.In h₂ := X₁.keeps k₂
  have hx₂ := k₂ _ _ hx₁
  have I₂ : InstAt h₂ x (excO C t0) C none := ⟨hx₂, rfl, rfl, trivial⟩
  have hI : Looks (model prog w) h₂ (isInstance (.ref x) (.type "ValueError")) true := I₂.type.andThen (looks_subIn X₂ T.veC)
  have hal : alongIn K "__init__" (((Value.ref C :: bm).dropWhile (· != .ref C)).drop 1) = some (some (.builtin "ValueError.__init__")) := by
    have z := T.sup
    unfold ks_superIn at z
    rw [hcl] at z
    exact z
  refine kxs_getMethod (l₀ := .ref C :: bm) kxs_ValueError e₂ (looks_opaque X₂ T.opq) (fun A Q E s k q => wpAny_bind ((looks_clsIn X₂ hcl) A _ E s k (wpAny_pure q))) rfl X₂ hal hI hxC (by decide) ?_
  have hxlt₂ : x ≠ h₂.objs.size := Nat.ne_of_lt (Heap.lt_size hx₂)
  refine kxs_callWith (i := "ValueError.__init__") (x := x) rfl ?_
  refine evalArgs_plain ?_
  refine Calls.spliced_cons ?_
  refine wpAny_mono (Q := fun v' s' => ∃ tk, s' = ⟨h₂.push (kxs_mw "ValueError.__init__" x), s.gens, s.drawn, tk, s.os⟩) (E := fun _ _ => False) (by wp_walk; exact ⟨_, rfl⟩) (fun v' s' hv => ?_) fun _ _ z => z.elim
  obtain ⟨tk', rfl⟩ := hv
  refine Calls.spliced_nil ?_
  refine ⟨Heap.get?_push_size _ rfl, ?_⟩
  refine call_mw (X₂.keeps (fun b o e => Heap.get?_push_of_some _ e) _ _ hC) (Heap.get?_push_of_some _ hx₂) (Heap.get?_push_size _ rfl) (by show 1 ≤ sizeLine; rw [sizeLine_eq]; decide) fun h₃ t1 k₃ e₃ => ?_
  have keep3 : ∀ b o, b ≠ x → h₁.get? b = some o → h₃.get? b = some o := fun b o hbx e => k₃ b o hbx (Heap.get?_push_of_some _ (k₂ b o e))
  have X₃ : K.In h₃ := fun b o e => keep3 b o (fun z => by rw [z, hnx] at e; cases e) (X₁ b o e)
  have hn₃ : h₃.Ns s.heap.objs.size (fun x_1 => List.lookup x_1 [(Str.ofString "self", Value.ref x), (Str.ofString "count", v)].reverse) := by
    obtain ⟨oL, es, ep, hL, r⟩ := hn
    exact ⟨oL, es, ep, keep3 _ _ hxL hL, r⟩
  have hL : s.heap.objs.size < h₁.objs.size := by
    obtain ⟨oL, es, ep, hL, r⟩ := hn
    exact Heap.lt_size hL
  refine wpAt_of_wpAny ?_
  refine wpAny_execs_cons (plainObj_wpAny_Assign_Attribute ?_)
  refine wpAny_Name (wpAny_loadName_local rfl rfl hn₃ (v := v) (by rfl) ?_) (by decide)
  refine wpAny_Name (wpAny_loadName_local rfl rfl hn₃ (v := .ref x) (by rfl) ?_) (by decide)
  refine set_plain X₃ (ox := excO C t1) (od := none) ⟨e₃, rfl, rfl, trivial⟩ T.sa ?_
  refine exc_osa X₃ e₃ hcl (show refsVE (.ref C :: bm) = true from hbm) rfl T.noN (fun h₄ tk₄ dx k₄ dn dne hx₄ hn₄ => ?_)
  show wpAny _ _ (execs _ _) _ _ _
  refine wpAny_execs_nil (hq h₄ tk₄ dx t1 ⟨fun b o hbx e => k₄ b o hbx (keep3 b o hbx (k b o e)), hx₄, ?_, dne, hn₄⟩)
  have z : h₁.objs.size ≤ h₃.objs.size := by
    have : h₃.get? h₁.objs.size = some { cls := Value.type "super", data := Data.fields #[Value.ref C, Value.ref x, Value.ref C] } := k₃ _ _ (fun z => by
      have := Heap.lt_size hx₁
      rw [← z] at this
      exact absurd this (Nat.lt_irrefl _)) (Heap.get?_push_of_some _ e₂)
    exact Nat.le_of_lt (Heap.lt_size this)
  have dn' : h₃.objs.size ≤ dx := dn
  omega
theorem pt_made (T : PtTxt K C fI cc) (hP : PrgOk prog) {v : Value} (X : K.In s.heap) (hlim : s.heap.NoLimit) (hg : s.heap.Ns mainGlobals mg) (hsup : mg "super" = none) (hb : s.heap.Ns builtinsNs mb) (hbs : mb "super" = some (.type "super")) (hroom : A.depth + 1 < recursionLimit)
    (hq : ∀ h' tk e d, PtMade s.heap h' e C d v → R (.ok (.ret (.ref e))) { s with heap := h', toks := tk }) :
    codeAny (model prog w) A (.call (.ref C) ⟨[v], []⟩) R s := by
  obtain ⟨nm, q, N, bs, bm, sn, sub, ab, col, dd, k0, k1, k2, k3, k5, hC, hbm⟩ := T.cls
  obtain ⟨hp, g, dr, tk, os⟩ := s
  have k : ∀ b o, hp.get? b = some o → ((hp.push (kdv_tup [v])).push (excO C hp.objs.size)).get? b = some o := fun b o e => Heap.get?_push_of_some _ (Heap.get?_push_of_some _ e)
  have hget : ((hp.push (kdv_tup [v])).push (excO C hp.objs.size)).get? (hp.objs.size + 1) = some (excO C hp.objs.size) := by heap_get
  have hnx : K.lookup (hp.objs.size + 1) = none := by
    cases e : K.lookup (hp.objs.size + 1) with
    | none => rfl
    | some o =>
      have z : hp.get? (hp.objs.size + 1) = some o := X _ _ e
      exact absurd (Nat.lt_of_succ_lt (Heap.lt_size z)) (Nat.lt_irrefl _)
  refine call_own F.excBase_ValueError (fun X => refsVE_contains X bm hbm) (X _ _ hC) (looks_findIn X T.iC) (fun self => bind_fn X self T.tC) (by show 1 ≤ sizeLine; rw [sizeLine_eq]; decide) ?_
  refine pt_init (s := ⟨(hp.push (kdv_tup [v])).push (excO C hp.objs.size), g, dr, tk, os⟩) T hP (X.keeps k) (hlim.keeps k) (hg.keeps k) hsup (hb.keeps k) hbs hget hnx ?_ (fun z => by rw [z, hC] at hnx; cases hnx) fun h' tk' dx t1 ⟨k', hx, dn, dne, hns⟩ => ?_
  · show A.depth + 1 < recursionLimit
    exact hroom
  · have old : ∀ b o, hp.get? b = some o → h'.get? b = some o := fun b o e => k' b o (Nat.ne_of_lt (Nat.lt_succ_of_lt (Heap.lt_size e))) (k b o e)
    have z : hp.objs.size + 1 + 1 ≤ dx := by
      first
        | (simpa only [Heap.size_push] using dn)
        | exact dn
        | (have q := dn; rw [Heap.size_push, Heap.size_push] at q; exact q)
    exact ⟨rfl, hq h' tk' (hp.objs.size + 1) dx ⟨old, Nat.le_succ _, ⟨_, _, hx, rfl, rfl, rfl, rfl⟩, Nat.le_trans (Nat.le_trans (Nat.le_succ _) (Nat.le_succ _)) z, dne, hns⟩⟩
end
end S
namespace S
open PySem PySem.Spec PyProof.Rows L2
theorem relO_count {v : V} {v' : Value} (r : RelV v v') (f : Str) : RelO (List.lookup f [(("count" : Str), v)]) (if f = "count" then some v' else none) := by
  by_cases hw : f = "count"
  · subst hw
    rw [if_pos rfl]
    have q : List.lookup ("count" : Str) [(("count" : Str), v)] = some v := by simp [List.lookup]
    rw [q]
    exact r
  · rw [if_neg hw]
    have qw : (f == ("count" : Str)) = false := by simpa using hw
    have q2 : List.lookup f [(("count" : Str), v)] = none := by simp [List.lookup, qw]
    rw [q2]
    trivial
section
variable {X : Cx} {C fI cc : Addr}
/-- TooManyParts(e) -/
def tMkPt (C : Addr) (ta : TA) : L2.St → Hp → XK → Prop := fun σ H Q => ta σ H fun vs H1 => ∃ v, vs = [v] ∧ ∀ d, H1 d = none → Q (.ref C) (some d) (upd H1 d (.xd [(("count" : Str), v)]))
theorem pmk_pt {a : Expr} {ta : TA} {p pos : Pos} {k : Nat} (T : PtTxt X.K C fI cc) (hP : PrgOk X.prog) (gC : X.mg "TooManyParts" = some (.ref C)) (hsup : X.mg "super" = none) (hr : Room k X.A) (ha : PA X [a] ta) (hg : Gl X "TooManyParts" := by rfl)
    (he : starEach (a :: []) X.env = (false, eval a X.env) :: starEach [] X.env := by rfl) (hpl : (backTo pos (starEach [] X.env)).any (·.1) = false := by rfl) :
    PMk X (.Call (.Name "TooManyParts" p) [a] [] pos) (tMkPt C ta) := by
  intro pins s σ H Q I h
  refine wpAny_Call_Name_kw (ld_glob I hg gC ?_)
  refine PySem.W.callWith_K (h₀ := X.base) I.ok.mod.kin T.kC (thn (ha.run pos pins s σ H _ I h) fun us s1 hh => ?_) he hpl
  obtain ⟨vs, H1, I1, r1, v, ev, q1⟩ := hh
  subst ev
  refine ⟨I1.kIn, ?_⟩
  cases r1 with
  | cons rv rn =>
    rename_i v' us'
    cases rn
    show wpAny _ _ (call (.ref C) [v']) _ _ _
    have hlim := I1.nolimit
    obtain ⟨mb, hb1, hb2⟩ := I1.mod.blt
    have hglob := I1.mod.glob.keeps I1.bk
    have hblt := hb1.keeps I1.bk
    have hbs : mb "super" = some (.type "super") := (hb2 "super" (by decide)).trans (by decide +kernel)
    obtain ⟨hp, g, dr, tk, os⟩ := s1
    refine wpAny_call (pt_made T hP I1.kIn hlim hglob hsup hblt hbs (by have := hr.dp; omega) fun h' tk' e d M => ?_)
    show MkP X pins σ Q (.ref e) ⟨h', g, dr, tk', os⟩
    obtain ⟨oe, fv, hoe, hc, hd, hdat, h1⟩ := M.obj
    have hns := M.ns
    obtain ⟨G', g1, g2⟩ := restrict h' fun b => decide (b ≠ e)
    have gk : ∀ b, b ≠ e → G'.get? b = h'.get? b := fun b hb => g1 b (decide_eq_true hb)
    have ge : G'.get? e = none := g2 e (by simp)
    have old : ∀ b o, hp.get? b = some o → G'.get? b = some o := fun b o q => (gk b (Nat.ne_of_lt (Nat.lt_of_lt_of_le (Heap.lt_size q) M.new))).trans (M.keep b o q)
    have ob : ObjOk X.prog X.w (upd H1 d (.xd [(("count" : Str), v)])) G' d (.xd [(("count" : Str), v)]) :=
      ⟨_, hns.at (fun o q => (gk d M.dne).trans q), fun f => relO_count rv f⟩
    have J : Inv X pins σ (upd H1 d (.xd [(("count" : Str), v)])) ⟨G', g, dr, tk', os⟩ := I1.laid (t' := tk') old M.dbig ob
    refine ⟨e, oe, fv, ⟨G', g, dr, tk', os⟩, _, .ref C, some d, rfl, J, fun b o q => ?_, ge, hoe, ⟨hc, hd⟩, hdat, h1, ?_, rfl, I1.bare, raises_own T.exC T.tyC, q1 d (I1.hok.fresh M.dbig)⟩
    · by_cases hb : b = e
      · have q' : G'.get? b = some o := q
        rw [hb, ge] at q'; cases q'
      · exact (gk b hb).symm.trans q
    · rw [upd_ne (Ne.symm M.dne)]
      exact I1.hok.fresh M.new
/-- raise TooManyParts(e) -/
def tRaisePt (C : Addr) (W : WX) (ta : TA) : TS := fun _ σ H => tMkPt C ta σ H fun cls d H' => W cls d σ H'
theorem ps_raisePt {a : Expr} {ta : TA} {W : WX} {p pos pos2 : Pos} {k : Nat} (hc : X.calm = true) (T : PtTxt X.K C fI cc) (hP : PrgOk X.prog) (gC : X.mg "TooManyParts" = some (.ref C)) (hsup : X.mg "super" = none) (hr : Room k X.A) (tk : Takes X W) (ha : PA X [a] ta) (hg : Gl X "TooManyParts" := by rfl)
    (he : starEach (a :: []) X.env = (false, eval a X.env) :: starEach [] X.env := by rfl) (hpl : (backTo pos (starEach [] X.env)).any (·.1) = false := by rfl) :
    PS X (.Raise (some (.Call (.Name "TooManyParts" p) [a] [] pos)) none pos2) (tRaisePt C W ta) := ps_raise hc tk (pmk_pt T hP gC hsup hr ha hg he hpl)
end
/-! ### the check of the written part -/
def ptFI (K : PySem.W.Frag) : Addr := He.ma K (He.ga K "TooManyParts") "__init__"
def ptCC (K : PySem.W.Frag) : Addr := match K.lookup (ptFI K) with
  | some ⟨_, _, .func fd, _⟩ => (match fd.closure with
    | [(_, c)] => c
    | _ => 0)
  | _ => 0
abbrev FnT : Type := Option (Str × Str × Arguments × FuncBody × Scope × Addr × List Str × Addr)
def fnT (K : PySem.W.Frag) : FnT := match K.lookup (ptFI K) with
  | some ⟨_, _, .func fd, _⟩ => some (fd.name, fd.qualname, fd.params, fd.body, fd.scope, fd.globals, fd.closure.map (·.1), fd.builtins)
  | _ => none
def fnTv : FnT := some ("__init__", "TooManyParts.__init__", iA, .stmts iB, iS, mainGlobals, ["__class__"], builtinsNs)
def ptCls (K : PySem.W.Frag) (C : Addr) : Bool := match K.lookup C with
  | some ⟨.type c, _, .cls cd, sl⟩ => (match cd.mro, sl.toList with
    | .ref C' :: bm, [_, _, _, _, some (.builtin n), _] => decide (c = "type") && (decide (C' = C) && (decide (n = "ValueError.__new__") && (cd.hasDict && (!cd.hasDel && PySem.HandSPX.refsVE bm))))
    | _, _ => false)
  | _ => false
theorem ptCls_ok {K : PySem.W.Frag} {C : Addr} (h : ptCls K C = true) : ∃ nm q N bs bm sn sub ab col dd k0 k1 k2 k3 k5, K.lookup C = some (excClassObj nm q C N bs bm true sn sub ab col dd k0 k1 k2 k3 k5 "ValueError.__new__") ∧ PySem.HandSPX.refsVE bm = true := by
  unfold ptCls at h
  split at h
  · rename_i c dd cd sl ho
    split at h
    · rename_i C' bm k0 k1 k2 k3 n k5 hm hs
      obtain ⟨h1, h⟩ := He.ba h
      obtain ⟨h2, h⟩ := He.ba h
      obtain ⟨h3, h⟩ := He.ba h
      obtain ⟨h4, h⟩ := He.ba h
      obtain ⟨h5, h6⟩ := He.ba h
      have e1 := of_decide_eq_true h1
      have e2 := of_decide_eq_true h2
      have e3 := of_decide_eq_true h3
      subst e1 e2 e3
      obtain ⟨nm, bs, mro, ns, qn, hd, sn, sub, ab, col, del⟩ := cd
      dsimp only at hm h4 h5
      subst hm h4
      have h5' : del = false := by simpa using h5
      subst h5'
      have hsl : sl = #[k0, k1, k2, k3, some (.builtin "ValueError.__new__"), k5] := by
        obtain ⟨l⟩ := sl
        simp only at hs
        rw [hs]
      subst hsl
      exact ⟨nm, qn, ns, bs, bm, sn, sub, ab, col, dd, k0, k1, k2, k3, k5, ho, h6⟩
    · cases h
  · cases h
def ptCell (K : PySem.W.Frag) (cc C : Addr) : Bool := match K.lookup cc with
  | some ⟨_, _, .cell (some (.ref D)), _⟩ => decide (D = C)
  | _ => false
theorem ptCell_ok {K : PySem.W.Frag} {cc C : Addr} (h : ptCell K cc C = true) : ∃ cl cld csl, K.lookup cc = some ⟨cl, cld, .cell (some (.ref C)), csl⟩ := by
  unfold ptCell at h
  split at h
  · rename_i cl cld D csl ho
    have e := of_decide_eq_true h
    subst e
    exact ⟨cl, cld, csl, ho⟩
  · cases h
def ptFn (K : PySem.W.Frag) (fI : Addr) : Bool := match K.lookup fI with
  | some ⟨_, _, .func fd, _⟩ => (match fd.defaults, fd.kwdefaults, fd.code, fd.closure with
    | .none, .none, .ref cda, [(_, _)] => PySem.W.codeIn K (.ref cda) "TooManyParts.__init__" && (match K.lookup cda with
      | some ⟨_, _, .fields vs, _⟩ => (match (vs[2]? : Option Value) with
        | some (.str f _) => decide (f = "/claim/cut.py")
        | _ => false)
      | _ => false)
    | _, _, _, _ => false)
  | _ => false
theorem ptFn_ok {K : PySem.W.Frag} (h : ptFn K (ptFI K) = true) (hv : fnT K = fnTv) : ∃ (oc : Value) (od : Option Addr) (doc pm : Value) (an : Option Addr) (cda : Addr) (ct : Value) (osl : Array (Option Value)) (ccl : Value) (cdd : Option Addr) (vs : Array Value) (ccs : Array (Option Value)) (tf : Tok),
    K.lookup (ptFI K) = some ⟨oc, od, .func (PySem.W.fnX "__init__" "TooManyParts.__init__" iA iB iS [("__class__", ptCC K)] .none .none doc pm an (.ref cda) ct), osl⟩ ∧ PySem.W.codeIn K (.ref cda) "TooManyParts.__init__" = true ∧ K.lookup cda = some ⟨ccl, cdd, .fields vs, ccs⟩ ∧ vs[2]? = some (.str "/claim/cut.py" tf) := by
  unfold ptCC
  unfold fnT at hv
  unfold ptFn at h
  split at h
  · rename_i oc od fd osl ho
    rw [ho] at hv ⊢
    dsimp only at hv ⊢
    split at h
    · rename_i cda x c e1 e2 e3 e4
      obtain ⟨h1, h2⟩ := He.ba h
      split at h2
      · rename_i ccl cdd vs ccs ho2
        split at h2
        · rename_i f tf hf
          have ef := of_decide_eq_true h2
          subst ef
          obtain ⟨nm, ql, pr, bd, sc, gl, clo, df, kd, doc, pm, an, cod, ct, bt⟩ := fd
          dsimp only at e1 e2 e3 e4 hv
          subst e1 e2 e3 e4
          injection hv with hv
          injection hv with v1 hv
          injection hv with v2 hv
          injection hv with v3 hv
          injection hv with v4 hv
          injection hv with v5 hv
          injection hv with v6 hv
          injection hv with v7 v8
          have v7' : x = "__class__" := by
            injection v7
          subst v1 v2 v3 v4 v5 v6 v7' v8
          exact ⟨oc, od, _, _, _, cda, _, osl, ccl, cdd, vs, ccs, tf, rfl, h1, ho2, hf⟩
        · cases h2
      · cases h2
    · cases h
  · cases h
/-- all that is asked, and e.count -/
def ptB (K : PySem.W.Frag) : Bool := ptCls K (He.ga K "TooManyParts") && (ptCell K (ptCC K) (He.ga K "TooManyParts") && (ptFn K (ptFI K) && (xfB K (He.ga K "TooManyParts") &&
  (He.eqO (PySem.W.findIn K (.ref (He.ga K "TooManyParts")) "__setattr__") (some (some (.builtin "object.__setattr__"))) && (He.eqO (PySem.W.findIn K (.ref (He.ga K "TooManyParts")) "count") (some none) &&
  (He.eqO (PySem.W.findIn K (.ref (He.ga K "TooManyParts")) "__init__") (some (some (.ref (ptFI K)))) && (decide (PySem.W.typeIn K (.ref (ptFI K)) = some (.type "function")) && (PySem.W.keepIn K (.ref (He.ga K "TooManyParts")) &&
  (decide (PySem.W.subIn K (.ref (He.ga K "TooManyParts")) (.type "ValueError") = some true) && (decide (PySem.W.typeIn K (.ref (He.ga K "TooManyParts")) = some (.type "type")) &&
  (He.eqO (PySem.W.ks_superIn K (He.ga K "TooManyParts") (He.ga K "TooManyParts") "__init__") (some (some (.builtin "ValueError.__init__"))) && (decide (PySem.W.mroIn K (He.ga K "TooManyParts") (.ref (He.ga K "TooManyParts")) = some true) &&
  He.eqO (PySem.W.nsIn K cStatics "thirdparty.any") (some none)))))))))))))
theorem ptB_ok {K : PySem.W.Frag} (h : ptB K = true) (hv : fnT K = fnTv) : PtTxt K (He.ga K "TooManyParts") (ptFI K) (ptCC K) ∧ XfC K (He.ga K "TooManyParts") := by
  unfold ptB at h
  obtain ⟨h1, h⟩ := He.ba h
  obtain ⟨h2, h⟩ := He.ba h
  obtain ⟨h3, h⟩ := He.ba h
  obtain ⟨h4, h⟩ := He.ba h
  obtain ⟨h5, h⟩ := He.ba h
  obtain ⟨h6, h⟩ := He.ba h
  obtain ⟨h7, h⟩ := He.ba h
  obtain ⟨h8, h⟩ := He.ba h
  obtain ⟨h9, h⟩ := He.ba h
  obtain ⟨h10, h⟩ := He.ba h
  obtain ⟨h11, h⟩ := He.ba h
  obtain ⟨h12, h⟩ := He.ba h
  obtain ⟨h13, h14⟩ := He.ba h
  have X := xfB_ok h4
  exact ⟨⟨ptCls_ok h1, He.eqO_ok h5, He.eqO_ok h6, He.eqO_ok h7, of_decide_eq_true h8, h9, X.exC, of_decide_eq_true h10, of_decide_eq_true h11, He.eqO_ok h12, of_decide_eq_true h13, He.eqO_ok h14, ptCell_ok h2, ptFn_ok h3 hv⟩, X⟩
end S
end

section
set_option Elab.async false
set_option linter.all false
set_option maxRecDepth 100000
set_option maxHeartbeats 0
namespace S
open PySem PySem.Spec PyProof.Rows L2
def top (i : Nat) : Stmt := PySem.Challenge.pw_slotwise_k60_whole_infinitely_many_by_re.main.body.getD i (.Pass ⟨0, 0, 0, 0⟩)
def dOf (i : Nat) (x : Str) (kwd : List (Str × He.Dv)) : He.DefD := ⟨(x, none), x, x, defArgs (top i), defBody (top i), defScope (top i), [], kwd⟩

def fn : List He.DefD := [dOf 7 "can_be_filled" [],
  dOf 8 "fill" [],
  dOf 9 "reach" [],
  dOf 10 "useful_variants" [],
  dOf 13 "ways_to_fill" [],
  dOf 14 "sizes_of" [],
  dOf 15 "counts_by_size" [],
  dOf 16 "count_from" [],
  dOf 17 "finite_counts" [],
  dOf 18 "checked" [],
  dOf 19 "product_count" [],
  dOf 22 "check_parts" [],
  dOf 23 "is_tree" [],
  dOf 24 "is_product" [],
  dOf 25 "price_of" [],
  dOf 26 "span_of" [],
  dOf 28 "weight_of" [],
  dOf 29 "least_round" [],
  dOf 30 "least_weights" [],
  dOf 31 "first_roots" [],
  dOf 32 "tree_from" [],
  dOf 34 "steps_of" [],
  dOf 35 "distances_to" [],
  dOf 36 "first_way" [("least", .int 0)],
  dOf 37 "repeated_state" [],
  dOf 38 "find_repetition" [],
  dOf 39 "repeat_part" [],
  dOf 41 "_law_tape" [],
  dOf 42 "_law_draw" [],
  dOf 43 "_law_integer" [],
  dOf 44 "_law_integers" [],
  dOf 45 "_law_price" [],
  dOf 46 "_law_family" [],
  dOf 47 "_law_size" [],
  dOf 48 "_law_sizes" [],
  dOf 49 "_law_useful" [],
  dOf 50 "_law_priced" [],
  dOf 51 "_law_steps" [],
  dOf 52 "_law_nexts" [],
  dOf 53 "_law_returns" [],
  dOf 54 "_law_span" [],
  dOf 55 "_law_product" [],
  dOf 56 "_law_endless" [],
  dOf 57 "_law_found" [],
  dOf 58 "_law_repeated" [],
  dOf 59 "law" []]
def fa : List He.Fa := [.glo "can_be_filled",
  .glo "fill",
  .glo "reach",
  .glo "useful_variants",
  .glo "ways_to_fill",
  .glo "sizes_of",
  .glo "counts_by_size",
  .glo "count_from",
  .glo "finite_counts",
  .glo "checked",
  .glo "product_count",
  .glo "check_parts",
  .glo "is_tree",
  .glo "is_product",
  .glo "price_of",
  .glo "span_of",
  .glo "weight_of",
  .glo "least_round",
  .glo "least_weights",
  .glo "first_roots",
  .glo "tree_from",
  .glo "steps_of",
  .glo "distances_to",
  .glo "first_way",
  .glo "repeated_state",
  .glo "find_repetition",
  .glo "repeat_part",
  .glo "_law_tape",
  .glo "_law_draw",
  .glo "_law_integer",
  .glo "_law_integers",
  .glo "_law_price",
  .glo "_law_family",
  .glo "_law_size",
  .glo "_law_sizes",
  .glo "_law_useful",
  .glo "_law_priced",
  .glo "_law_steps",
  .glo "_law_nexts",
  .glo "_law_returns",
  .glo "_law_span",
  .glo "_law_product",
  .glo "_law_endless",
  .glo "_law_found",
  .glo "_law_repeated",
  .glo "law",
  .free "abs",
  .free "all",
  .free "any",
  .free "bool",
  .free "enumerate",
  .free "int",
  .free "isinstance",
  .free "len",
  .free "list",
  .free "max",
  .free "min",
  .free "range",
  .free "reversed",
  .free "sorted",
  .free "sum",
  .free "tuple",
  .free "super",
  .free "ValueError",
  .int "MOST_TREES" (10 ^ 30),
  .int "MOST_PARTS" 100,
  .glo "TooManyTrees",
  .glo "TooManyParts",
  .exc "TooManyTrees",
  .keep "TooManyParts",
  .exm "TooManyTrees" "TooManyTrees" true,
  .exm "TooManyParts" "TooManyParts" true]
abbrev R : PySem.W.OpenRow := PySem.W.OpenLaw.row PySem.Challenge.rw_slotwise_k60_whole_infinitely_many_by_re
/-- what the names reach in n steps, and the interpreter's own table -/
def asS (n : Nat) (g : Addr → Option Obj) : List Addr := He.asD g n ++ [cStatics]
abbrev AlS : Type := He.AlD × (Bool × FnT)
def obsK (fa : List He.Fa) (fn : List He.DefD) (K : PySem.W.Frag) : AlS := (He.obsD fa fn K, (ptB K, fnT K))
def valK (fn : List He.DefD) : AlS := (He.valD fn, (true, fnTv))
def obsS (n : Nat) (fa : List He.Fa) (fn : List He.DefD) (g : Addr → Option Obj) : AlS := obsK fa fn (He.frG g (asS n g))
structure SaysS (fa : List He.Fa) (fn : List He.DefD) (K : PySem.W.Frag) : Prop where
  d : He.SaysD fa fn K
  pt : ptB K = true
  ft : fnT K = fnTv
theorem saysS_of {fa : List He.Fa} {fn : List He.DefD} {K : PySem.W.Frag} (e : obsK fa fn K = valK fn) : SaysS fa fn K :=
  ⟨congrArg (fun z : AlS => z.1) e, congrArg (fun z : AlS => z.2.1) e, congrArg (fun z : AlS => z.2.2) e⟩
def hookS (n : Nat) (fa : List He.Fa) (fn : List He.DefD) : PySem.W.Hook where
  α := AlS
  obs := fun s => obsS n fa fn s.heap.get?
  val := fun _ => valK fn
  says := fun _ h => ∃ K : PySem.W.Frag, K.In h ∧ SaysS fa fn K
  of := fun _ _ e => ⟨_, He.frG_in, saysS_of e⟩
  keeps := fun _ _ _ ⟨K, hK, c⟩ k => ⟨K, PySem.W.Frag.In.keeps hK k, c⟩
theorem obsS_eq {n : Nat} {fa : List He.Fa} {fn : List He.DefD} {g : Addr → Option Obj} {s : Shared} (h : ∀ a, g a = s.heap.get? a) : obsS n fa fn g = (hookS n fa fn).obs s := by
  have e : g = s.heap.get? := funext h
  rw [e] <;> rfl
abbrev hk : PySem.W.Hook := hookS 5 fa fn
def ob (s : PySem.W.SharedT) : AlS := obsS 5 fa fn (HandSHeadRun.getT s)
theorem ob_eq (s : PySem.W.SharedT) : ob s = hk.obs s.abs := obsS_eq (HandSHeadRun.getT_eq s)
def loose1 : List Str := ["can_be_filled", "fill", "reach", "useful_variants", "ways_to_fill", "sizes_of", "counts_by_size", "count_from", "finite_counts", "checked", "product_count", "check_parts", "is_tree", "is_product", "price_of", "span_of", "weight_of", "least_round", "least_weights", "first_roots", "tree_from", "steps_of", "distances_to", "first_way", "repeated_state", "find_repetition"]
def loose2 : List Str := ["repeat_part", "_law_tape", "_law_draw", "_law_integer", "_law_integers", "_law_price", "_law_family", "_law_size", "_law_sizes", "_law_useful", "_law_priced", "_law_steps", "_law_nexts", "_law_returns", "_law_span", "_law_product", "_law_endless", "_law_found", "_law_repeated", "SlotError", "TooManyParts", "NotInside", "StatesDiffer", "TooManyTrees", "MOST_TREES", "MOST_PARTS"]
def loose : List Str := loose1 ++ loose2
theorem run (w : World) : HandSHeadRun.RunEq R (PySem.W.view R.prog [59]) hk ob 4000 loose w := by
  intro os
  kernel_rfl
end S
end

section
set_option Elab.async false
set_option linter.all false
set_option autoImplicit false
set_option maxHeartbeats 1000000
namespace S
structure Var where
  plug : Nat
  slots : List Nat
  price : Option Nat
structure Fam where
  cnt : Nat
  roots : List Nat
  vs : List Var
structure Fam.Ok (F : Fam) : Prop where
  c1 : 1 ≤ F.cnt
  c4 : F.cnt ≤ 4
  rl : ∀ r ∈ F.roots, r < F.cnt
  rn : F.roots.Nodup
  v12 : F.vs.length ≤ 12
  pl : ∀ x ∈ F.vs, x.plug < F.cnt
  s3 : ∀ x ∈ F.vs, x.slots.length ≤ 3
  sl : ∀ x ∈ F.vs, ∀ s ∈ x.slots, s < F.cnt
  pr : ∀ x ∈ F.vs, ∀ p, x.price = some p → p ≤ 1000000000

/-! ### filled, reached, steps, finite -/
inductive Filled (F : Fam) : Nat → Prop
  | mk {x : Var} : x ∈ F.vs → x.price.isSome = true → (∀ s ∈ x.slots, Filled F s) → Filled F x.plug
def Can (F : Fam) (x : Var) : Prop := x.price.isSome = true ∧ ∀ s ∈ x.slots, Filled F s
inductive Reached (F : Fam) : Nat → Prop
  | root {r : Nat} : r ∈ F.roots → Reached F r
  | step {x : Var} {s : Nat} : Reached F x.plug → x ∈ F.vs → Can F x → s ∈ x.slots → Reached F s
def Useful (F : Fam) (x : Var) : Prop := Reached F x.plug ∧ Can F x
/-- a test by slots that are known -/
def canB (x : Var) (bs : List Bool) : Bool := x.price.isSome && (x.slots.map fun t => bs.getD t false).all id
theorem canB_iff {x : Var} {bs : List Bool} : canB x bs = true ↔ x.price.isSome = true ∧ ∀ t ∈ x.slots, bs.getD t false = true := by
  unfold canB
  rw [Bool.and_eq_true, List.all_eq_true]
  constructor
  · rintro ⟨h1, h2⟩
    exact ⟨h1, fun t ht => h2 _ (List.mem_map_of_mem ht)⟩
  · rintro ⟨h1, h2⟩
    refine ⟨h1, fun b hb => ?_⟩
    obtain ⟨t, ht, rfl⟩ := List.mem_map.mp hb
    exact h2 t ht
/-- bs tells which states are filled -/
structure FillOk (F : Fam) (bs : List Bool) : Prop where
  len : bs.length = F.cnt
  iff : ∀ s, bs.getD s false = true ↔ s < F.cnt ∧ Filled F s
theorem FillOk.can {F : Fam} {bs : List Bool} (h : FillOk F bs) (ok : F.Ok) {x : Var} (hx : x ∈ F.vs) : canB x bs = true ↔ Can F x := by
  rw [canB_iff]
  refine ⟨fun ⟨h1, h2⟩ => ⟨h1, fun s hs => ((h.iff s).mp (h2 s hs)).2⟩, fun ⟨h1, h2⟩ => ⟨h1, fun s hs => (h.iff s).mpr ⟨ok.sl x hx s hs, h2 s hs⟩⟩⟩
/-- closed under the variants, and no more than what is filled: it is what is filled -/
theorem fill_end {F : Fam} (ok : F.Ok) {bs : List Bool} (hl : bs.length = F.cnt) (h1 : ∀ s, bs.getD s false = true → Filled F s) (h2 : ∀ x ∈ F.vs, canB x bs = true → bs.getD x.plug false = true) : FillOk F bs := by
  have hf : ∀ s, Filled F s → bs.getD s false = true := fun s h => by
    induction h with
    | mk hx hp _ ih => exact h2 _ hx (canB_iff.mpr ⟨hp, ih⟩)
  refine ⟨hl, fun s => ⟨fun h => ⟨?_, h1 s h⟩, fun ⟨_, h⟩ => hf s h⟩⟩
  · rw [← hl]
    by_cases hs : s < bs.length
    · exact hs
    · rw [List.getD_eq_getElem?_getD, List.getElem?_eq_none (by omega)] at h
      cases h
def nF (bs : List Bool) : Nat := bs.countP fun b => !b
theorem nF_set {bs : List Bool} {s : Nat} (h : bs[s]? = some false) : nF (bs.set s true) + 1 = nF bs := by
  unfold nF
  induction bs generalizing s with
  | nil => cases h
  | cons b r ih =>
    cases s with
    | zero =>
      have e : b = false := Option.some.inj h
      subst e
      rw [List.set_cons_zero, List.countP_cons, List.countP_cons]
      simp
    | succ s =>
      rw [List.set_cons_succ, List.countP_cons, List.countP_cons]
      have := ih (s := s) h
      omega
theorem getD_set {bs : List Bool} {s t : Nat} (hs : s < bs.length) : (bs.set s true).getD t false = true ↔ t = s ∨ bs.getD t false = true := by
  rw [List.getD_eq_getElem?_getD, List.getD_eq_getElem?_getD]
  by_cases e : t = s
  · subst e
    rw [List.getElem?_set_self hs]
    simp
  · rw [List.getElem?_set_ne (fun z => e z.symm)]
    simp [e]
theorem getD_of {bs : List Bool} {s : Nat} {b : Bool} (h : bs[s]? = some b) : bs.getD s false = b := by
  rw [List.getD_eq_getElem?_getD, h] <;> rfl
theorem get_of_lt {bs : List Bool} {s : Nat} (h : s < bs.length) : bs[s]? = some (bs.getD s false) := by
  rw [List.getD_eq_getElem?_getD, List.getElem?_eq_getElem h] <;> rfl
/-- rs tells which states are reached -/
structure ReachOk (F : Fam) (rs : List Bool) : Prop where
  len : rs.length = F.cnt
  iff : ∀ s, rs.getD s false = true ↔ s < F.cnt ∧ Reached F s
theorem Reached.lt {F : Fam} (ok : F.Ok) {s : Nat} (h : Reached F s) : s < F.cnt := by
  induction h with
  | root hr => exact ok.rl _ hr
  | step _ hx _ hs _ => exact ok.sl _ hx _ hs
theorem getD_lt {bs : List Bool} {s : Nat} (h : bs.getD s false = true) : s < bs.length := by
  by_cases hs : s < bs.length
  · exact hs
  · rw [List.getD_eq_getElem?_getD, List.getElem?_eq_none (by omega)] at h
    cases h
theorem reach_end {F : Fam} (ok : F.Ok) {rs : List Bool} (hl : rs.length = F.cnt) (h1 : ∀ s, rs.getD s false = true → Reached F s) (h2 : ∀ r ∈ F.roots, rs.getD r false = true)
    (h3 : ∀ x ∈ F.vs, Can F x → rs.getD x.plug false = true → ∀ s ∈ x.slots, rs.getD s false = true) : ReachOk F rs := by
  have hf : ∀ s, Reached F s → rs.getD s false = true := fun s h => by
    induction h with
    | root hr => exact h2 _ hr
    | step _ hx hc hs ih => exact h3 _ hx hc ih _ hs
  exact ⟨hl, fun s => ⟨fun h => ⟨by rw [← hl]; exact getD_lt h, h1 s h⟩, fun ⟨_, h⟩ => hf s h⟩⟩
theorem nF_le (bs : List Bool) : nF bs ≤ bs.length := List.countP_le_length
theorem nodup_le {n : Nat} : ∀ {l : List Nat}, l.Nodup → (∀ a ∈ l, a < n) → l.length ≤ n := by
  induction n with
  | zero =>
    intro l _ h
    cases l with
    | nil => exact Nat.le_refl _
    | cons a r => exact absurd (h a List.mem_cons_self) (Nat.not_lt_zero _)
  | succ n ih =>
    intro l hn h
    have h1 : (l.erase n).Nodup := hn.erase n
    have h2 : ∀ a ∈ l.erase n, a < n := fun a ha => by
      have z := (hn.mem_erase_iff).mp ha
      have := h a z.2
      omega
    have h3 := ih h1 h2
    have h4 := List.length_erase (a := n) (l := l)
    split at h4 <;> omega
/-- finitely many trees -/
inductive FinS (F : Fam) : Nat → Prop
  | mk {s : Nat} : (∀ x ∈ F.vs, x.plug = s → Can F x → ∀ t ∈ x.slots, FinS F t) → FinS F s
theorem fin_end {F : Fam} (ok : F.Ok) {A : Nat → Prop} (h : ∀ s, s < F.cnt → ¬ A s → ∃ x, x ∈ F.vs ∧ x.plug = s ∧ Can F x ∧ ∃ t, t ∈ x.slots ∧ ¬ A t) : ∀ s, FinS F s → s < F.cnt → A s := fun s hf => by
  induction hf with
  | mk _ ih =>
    intro hs
    refine Classical.byContradiction fun hn => ?_
    obtain ⟨x, hx, hp, hc, t, ht, ha⟩ := h _ hs hn
    exact ha (ih x hx hp hc t ht (ok.sl x hx t ht))
def cN {β : Type} (n : Nat) (g : Nat → Option β) : Nat := (List.range n).countP fun s => (g s).isNone
theorem cN_put {β : Type} {n : Nat} {g g' : Nat → Option β} {s : Nat} (hs : s < n) (hn : g s = none) (h1 : (g' s).isSome = true) (h2 : ∀ t, t ≠ s → g' t = g t) : cN n g' + 1 = cN n g := by
  unfold cN
  induction n with
  | zero => exact absurd hs (Nat.not_lt_zero _)
  | succ n ih =>
    rw [List.range_succ, List.countP_append, List.countP_append, List.countP_singleton, List.countP_singleton]
    by_cases e : s = n
    · subst e
      have e1 : (List.range s).countP (fun t => (g' t).isNone) = (List.range s).countP (fun t => (g t).isNone) := List.countP_congr fun t ht => by
        have := List.mem_range.mp ht
        rw [h2 t (by omega)]
      rw [e1, hn]
      cases h : g' s with
      | none => rw [h] at h1; cases h1
      | some v => simp
    · have := ih (by omega)
      rw [h2 n (fun z => e z.symm)]
      omega
theorem cN_le {β : Type} (n : Nat) (g : Nat → Option β) : cN n g ≤ n := by
  unfold cN
  have := List.countP_le_length (p := fun s => (g s).isNone) (l := List.range n)
  rw [List.length_range] at this
  exact this
/-! ### steps -/
def StepAt (F : Fam) (p i j s : Nat) : Prop := ∃ x, F.vs[i]? = some x ∧ x.plug = p ∧ x.slots[j]? = some s
def IsStep (F : Fam) (p i j s : Nat) : Prop := ∃ x, F.vs[i]? = some x ∧ Useful F x ∧ x.plug = p ∧ x.slots[j]? = some s
theorem StepAt.lt {F : Fam} (ok : F.Ok) {p i j s : Nat} (h : StepAt F p i j s) : p < F.cnt ∧ i < F.vs.length ∧ j < 3 ∧ s < F.cnt := by
  obtain ⟨x, hx, rfl, hs⟩ := h
  have hm := List.mem_of_getElem? hx
  have h1 := (List.getElem?_eq_some_iff.mp hx).1
  have h2 := (List.getElem?_eq_some_iff.mp hs).1
  have h3 := ok.s3 x hm
  exact ⟨ok.pl x hm, h1, by omega, ok.sl x hm s (List.mem_of_getElem? hs)⟩
theorem IsStep.at {F : Fam} {p i j s : Nat} (h : IsStep F p i j s) : StepAt F p i j s := by
  obtain ⟨x, h1, _, h2⟩ := h
  exact ⟨x, h1, h2⟩
def Edge (F : Fam) (p s : Nat) : Prop := ∃ i j, IsStep F p i j s
/-- p leads to g -/
inductive Lead (F : Fam) (g : Nat) : Nat → Prop
  | refl : Lead F g g
  | step {p s : Nat} : Edge F p s → Lead F g s → Lead F g p
end S
end

section
set_option Elab.async false
set_option linter.all false
set_option autoImplicit false
set_option maxHeartbeats 1000000
namespace S
/-! ### trees, written from the top, from left to right -/
/-- the numbers ns fill the states ws -/
inductive Fo (F : Fam) : List Nat → List Nat → Prop
  | nil : Fo F [] []
  | cons {x : Var} {n : Nat} {ws ns : List Nat} : F.vs[n]? = some x → x.price.isSome = true → Fo F (x.slots ++ ws) ns → Fo F (x.plug :: ws) (n :: ns)
theorem Fo.inv {F : Fam} {p n : Nat} {ws ns : List Nat} (h : Fo F (p :: ws) (n :: ns)) : ∃ x, F.vs[n]? = some x ∧ x.price.isSome = true ∧ x.plug = p ∧ Fo F (x.slots ++ ws) ns := by
  cases h with
  | cons h1 h2 h3 => exact ⟨_, h1, h2, rfl, h3⟩
theorem Fo.nil_inv {F : Fam} {ns : List Nat} (h : Fo F [] ns) : ns = [] := by cases h <;> rfl
theorem Fo.inv' {F : Fam} {p : Nat} {ws t : List Nat} (h : Fo F (p :: ws) t) : ∃ n ns x, t = n :: ns ∧ F.vs[n]? = some x ∧ x.price.isSome = true ∧ x.plug = p ∧ Fo F (x.slots ++ ws) ns := by
  cases h with
  | cons h1 h2 h3 => exact ⟨_, _, _, rfl, h1, h2, rfl, h3⟩
theorem Fo.app {F : Fam} {a u b v : List Nat} (h : Fo F a u) (k : Fo F b v) : Fo F (a ++ b) (u ++ v) := by
  induction h with
  | nil => exact k
  | cons h1 h2 _ ih =>
    rw [List.append_assoc] at ih
    exact .cons h1 h2 ih
theorem Fo.split {F : Fam} {w t : List Nat} (h : Fo F w t) : ∀ a b, w = a ++ b → ∃ u v, t = u ++ v ∧ Fo F a u ∧ Fo F b v := by
  induction h with
  | nil =>
    intro a b e
    obtain ⟨rfl, rfl⟩ := List.append_eq_nil_iff.mp e.symm
    exact ⟨[], [], rfl, .nil, .nil⟩
  | @cons x n ws ns h1 h2 h3 ih =>
    intro a b e
    cases a with
    | nil => exact ⟨[], n :: ns, rfl, .nil, by rw [← show x.plug :: ws = b from e]; exact .cons h1 h2 h3⟩
    | cons p a =>
      injection e with e1 e2
      subst e1
      obtain ⟨u, v, e3, h4, h5⟩ := ih (x.slots ++ a) b (by rw [show ws = a ++ b from e2, List.append_assoc])
      exact ⟨n :: u, v, by rw [e3] <;> rfl, .cons h1 h2 h4, h5⟩
theorem Fo.valid {F : Fam} {w t : List Nat} (h : Fo F w t) : ∀ n ∈ t, ∃ x, F.vs[n]? = some x ∧ x.price.isSome = true := by
  induction h with
  | nil => intro n hn; exact absurd hn List.not_mem_nil
  | cons h1 h2 _ ih =>
    intro n hn
    rcases List.mem_cons.mp hn with rfl | hn
    · exact ⟨_, h1, h2⟩
    · exact ih n hn
theorem Fo.wlen {F : Fam} (ok : F.Ok) {w t : List Nat} (h : Fo F w t) : w.length ≤ t.length := by
  induction h with
  | nil => exact Nat.le_refl _
  | cons h1 h2 _ ih =>
    rw [List.length_append] at ih
    rw [List.length_cons, List.length_cons]
    omega
theorem Fo.pos {F : Fam} {s : Nat} {t : List Nat} (h : Fo F [s] t) : 1 ≤ t.length := by
  obtain ⟨n, ns, x, rfl, _⟩ := h.inv'
  rw [List.length_cons]
  omega
/-- what must come where s stands, around a hole of the state s1 -/
def Ctx (F : Fam) (s0 s1 : Nat) (pre post : List Nat) : Prop := ∀ t, Fo F [s1] t → Fo F [s0] (pre ++ t ++ post)
theorem Ctx.nil {F : Fam} {s : Nat} : Ctx F s s [] [] := fun t h => by
  rw [List.nil_append, List.append_nil]
  exact h
theorem Ctx.comp {F : Fam} {a b c : Nat} {p q p' q' : List Nat} (h : Ctx F a b p q) (k : Ctx F b c p' q') : Ctx F a c (p ++ p') (q' ++ q) := fun t ht => by
  have := h _ (k t ht)
  rw [show p ++ p' ++ t ++ (q' ++ q) = p ++ (p' ++ t ++ q') ++ q by simp [List.append_assoc]]
  exact this
def rep (k : Nat) (l : List Nat) : List Nat := (List.replicate k l).flatten
theorem rep_zero (l : List Nat) : rep 0 l = [] := rfl
theorem rep_succ (k : Nat) (l : List Nat) : rep (k + 1) l = l ++ rep k l := by
  unfold rep
  rw [List.replicate_succ, List.flatten_cons]
theorem rep_succ' (k : Nat) (l : List Nat) : rep (k + 1) l = rep k l ++ l := by
  induction k with
  | zero => rw [rep_succ, rep_zero, List.append_nil, List.nil_append]
  | succ k ih => rw [rep_succ, ih, ← List.append_assoc, ← rep_succ, ih]
theorem rep_len (k : Nat) (l : List Nat) : (rep k l).length = k * l.length := by
  induction k with
  | zero => rw [rep_zero, Nat.zero_mul] <;> rfl
  | succ k ih => rw [rep_succ, List.length_append, ih, Nat.succ_mul, Nat.add_comm]
theorem Ctx.pow {F : Fam} {a : Nat} {p q : List Nat} (h : Ctx F a a p q) (k : Nat) : Ctx F a a (rep k p) (rep k q) := by
  induction k with
  | zero => exact .nil
  | succ k ih =>
    rw [rep_succ, rep_succ']
    exact h.comp ih
/-- one step down, the slots beside filled -/
theorem ctx_step {F : Fam} {x : Var} {n j s : Nat} {l r : List Nat} (hx : F.vs[n]? = some x) (hp : x.price.isSome = true) (hj : x.slots[j]? = some s) (hl : Fo F (x.slots.take j) l) (hr : Fo F (x.slots.drop (j + 1)) r) : Ctx F x.plug s (n :: l) r := fun t ht => by
  show Fo F [x.plug] (n :: ((l ++ t) ++ r))
  refine .cons hx hp ?_
  rw [List.append_nil]
  obtain ⟨hlt, he⟩ := List.getElem?_eq_some_iff.mp hj
  have e : x.slots = x.slots.take j ++ [s] ++ x.slots.drop (j + 1) := by
    rw [List.append_assoc, List.singleton_append, ← he, ← List.drop_eq_getElem_cons hlt, List.take_append_drop]
  rw [e]
  exact (hl.app ht).app hr
/-- prices -/
def prN (F : Fam) (n : Nat) : Int := match F.vs[n]? with
  | some x => (match x.price with
    | some p => (p : Int)
    | none => 0)
  | none => 0
def prS (F : Fam) (ns : List Nat) : Int := (ns.map (prN F)).sum
theorem prS_app (F : Fam) (a b : List Nat) : prS F (a ++ b) = prS F a + prS F b := by
  unfold prS
  rw [List.map_append, List.sum_append]
theorem prS_rep (F : Fam) (k : Nat) (l : List Nat) : prS F (rep k l) = (k : Int) * prS F l := by
  induction k with
  | zero =>
    rw [rep_zero]
    show (([] : List Int).sum) = ((0 : Nat) : Int) * _
    rw [Int.natCast_zero, Int.zero_mul] <;> rfl
  | succ k ih =>
    rw [rep_succ, prS_app, ih, Int.natCast_succ, Int.add_mul, Int.one_mul, Int.add_comm]
end S
end

section
set_option Elab.async false
set_option linter.all false
set_option autoImplicit false
set_option maxHeartbeats 1000000
namespace S
/-! ### least weights: a price, a count of parts -/
abbrev Wt := Nat × Nat
def leW (a b : Wt) : Prop := a.1 < b.1 ∨ (a.1 = b.1 ∧ a.2 ≤ b.2)
def ltW (a b : Wt) : Prop := a.1 < b.1 ∨ (a.1 = b.1 ∧ a.2 < b.2)
theorem leW.refl (a : Wt) : leW a a := .inr ⟨rfl, Nat.le_refl _⟩
theorem leW.trans {a b c : Wt} (h : leW a b) (k : leW b c) : leW a c := by
  unfold leW at *
  omega
theorem leW.anti {a b : Wt} (h : leW a b) (k : leW b a) : a = b := by
  obtain ⟨a1, a2⟩ := a
  obtain ⟨b1, b2⟩ := b
  unfold leW at *
  dsimp only at *
  have h1 : a1 = b1 := by omega
  have h2 : a2 = b2 := by omega
  rw [h1, h2]
theorem leW.not_lt {a b : Wt} (h : leW a b) : ¬ ltW b a := by
  unfold leW ltW at *
  omega
theorem leW.of_not {a b : Wt} (h : ¬ ltW b a) : leW a b := by
  unfold leW ltW at *
  omega
theorem ltW.le {a b : Wt} (h : ltW a b) : leW a b := by
  unfold leW ltW at *
  omega
abbrev WF := Nat → Option Wt
def leO (a b : Option Wt) : Prop := ∀ w, b = some w → ∃ v, a = some v ∧ leW v w
theorem leO.refl (a : Option Wt) : leO a a := fun w h => ⟨w, h, .refl w⟩
theorem leO.trans {a b c : Option Wt} (h : leO a b) (k : leO b c) : leO a c := fun w hw => by
  obtain ⟨v, hv, h1⟩ := k w hw
  obtain ⟨u, hu, h2⟩ := h v hv
  exact ⟨u, hu, h2.trans h1⟩
/-- the slots' weights together -/
def wS (W : WF) : List Nat → Option Wt
  | [] => some (0, 0)
  | s :: r => match W s, wS W r with
    | some a, some b => some (a.1 + b.1, a.2 + b.2)
    | _, _ => none
def wOf (W : WF) (x : Var) : Option Wt := match x.price, wS W x.slots with
  | some p, some b => some (p + b.1, 1 + b.2)
  | _, _ => none
theorem wS_cons {W : WF} {s : Nat} {r : List Nat} {w : Wt} : wS W (s :: r) = some w ↔ ∃ a b, W s = some a ∧ wS W r = some b ∧ w = (a.1 + b.1, a.2 + b.2) := by
  constructor
  · intro h
    have h' : (match W s, wS W r with
      | some a, some b => some (a.1 + b.1, a.2 + b.2)
      | _, _ => none) = some w := h
    cases e1 : W s with
    | none => rw [e1] at h'; cases h'
    | some a =>
      cases e2 : wS W r with
      | none => rw [e1, e2] at h'; cases h'
      | some b => rw [e1, e2] at h'; exact ⟨a, b, rfl, rfl, (Option.some.inj h').symm⟩
  · rintro ⟨a, b, h1, h2, rfl⟩
    show (match W s, wS W r with
      | some a, some b => some (a.1 + b.1, a.2 + b.2)
      | _, _ => none) = _
    rw [h1, h2]
theorem wOf_some {W : WF} {x : Var} {w : Wt} : wOf W x = some w ↔ ∃ p b, x.price = some p ∧ wS W x.slots = some b ∧ w = (p + b.1, 1 + b.2) := by
  unfold wOf
  constructor
  · intro h
    cases e1 : x.price with
    | none => rw [e1] at h; cases h
    | some a =>
      cases e2 : wS W x.slots with
      | none => rw [e1, e2] at h; cases h
      | some b => rw [e1, e2] at h; exact ⟨a, b, rfl, rfl, (Option.some.inj h).symm⟩
  · rintro ⟨a, b, h1, h2, rfl⟩
    rw [h1, h2]
theorem wS_mem {W : WF} {l : List Nat} {w : Wt} (h : wS W l = some w) : ∀ t ∈ l, ∃ v, W t = some v ∧ v.1 ≤ w.1 ∧ v.2 ≤ w.2 := by
  induction l generalizing w with
  | nil => intro t ht; exact absurd ht List.not_mem_nil
  | cons s r ih =>
    obtain ⟨a, b, h1, h2, rfl⟩ := wS_cons.mp h
    intro t ht
    rcases List.mem_cons.mp ht with rfl | ht
    · exact ⟨a, h1, Nat.le_add_right _ _, Nat.le_add_right _ _⟩
    · obtain ⟨v, hv, h3, h4⟩ := ih h2 t ht
      exact ⟨v, hv, by show v.1 ≤ a.1 + b.1; omega, by show v.2 ≤ a.2 + b.2; omega⟩
theorem wS_all {W : WF} {l : List Nat} (h : ∀ t ∈ l, (W t).isSome = true) : ∃ w, wS W l = some w := by
  induction l with
  | nil => exact ⟨_, rfl⟩
  | cons s r ih =>
    obtain ⟨b, hb⟩ := ih fun t ht => h t (List.mem_cons_of_mem _ ht)
    obtain ⟨a, ha⟩ := Option.isSome_iff_exists.mp (h s List.mem_cons_self)
    exact ⟨_, wS_cons.mpr ⟨a, b, ha, hb, rfl⟩⟩
theorem wS_snoc {W : WF} {l : List Nat} {s : Nat} {a b : Wt} (h : wS W l = some a) (k : W s = some b) : wS W (l ++ [s]) = some (a.1 + b.1, a.2 + b.2) := by
  induction l generalizing a with
  | nil =>
    have e : a = (0, 0) := (Option.some.inj h).symm
    subst e
    show wS W [s] = _
    rw [wS_cons]
    exact ⟨b, (0, 0), k, rfl, by simp⟩
  | cons t r ih =>
    obtain ⟨c, d, h1, h2, rfl⟩ := wS_cons.mp h
    show wS W (t :: (r ++ [s])) = _
    rw [wS_cons]
    exact ⟨c, _, h1, ih h2, by simp [Nat.add_assoc]⟩
theorem wS_mono {W W' : WF} {l : List Nat} (h : ∀ t ∈ l, leO (W t) (W' t)) : leO (wS W l) (wS W' l) := by
  induction l with
  | nil => exact .refl _
  | cons s r ih =>
    intro w hw
    obtain ⟨a, b, h1, h2, rfl⟩ := wS_cons.mp hw
    obtain ⟨a', h3, h4⟩ := h s List.mem_cons_self a h1
    obtain ⟨b', h5, h6⟩ := ih (fun t ht => h t (List.mem_cons_of_mem _ ht)) b h2
    refine ⟨_, wS_cons.mpr ⟨a', b', h3, h5, rfl⟩, ?_⟩
    unfold leW at *
    dsimp only at *
    omega
theorem wS_congr {W W' : WF} {l : List Nat} (h : ∀ t ∈ l, W t = W' t) : wS W l = wS W' l := by
  induction l with
  | nil => rfl
  | cons s r ih =>
    show (match W s, wS W r with
      | some a, some b => some (a.1 + b.1, a.2 + b.2)
      | _, _ => none) = (match W' s, wS W' r with
      | some a, some b => some (a.1 + b.1, a.2 + b.2)
      | _, _ => none)
    rw [h s List.mem_cons_self, ih fun t ht => h t (List.mem_cons_of_mem _ ht)]
theorem wOf_congr {W W' : WF} {x : Var} (h : ∀ t ∈ x.slots, W t = W' t) : wOf W x = wOf W' x := by
  unfold wOf
  rw [wS_congr h]
theorem wOf_mono {W W' : WF} {x : Var} (h : ∀ t ∈ x.slots, leO (W t) (W' t)) : leO (wOf W x) (wOf W' x) := fun w hw => by
  obtain ⟨p, b, h1, h2, rfl⟩ := wOf_some.mp hw
  obtain ⟨b', h3, h4⟩ := wS_mono h b h2
  refine ⟨_, wOf_some.mpr ⟨p, b', h1, h3, rfl⟩, ?_⟩
  unfold leW at *
  dsimp only at *
  omega
theorem wOf_child {W : WF} {x : Var} {w : Wt} (h : wOf W x = some w) : ∀ t ∈ x.slots, ∃ v, W t = some v ∧ ltW v w := fun t ht => by
  obtain ⟨p, b, h1, h2, rfl⟩ := wOf_some.mp h
  obtain ⟨v, h3, h4, h5⟩ := wS_mem h2 t ht
  refine ⟨v, h3, ?_⟩
  unfold ltW
  dsimp only
  omega
/-- B: the least of what xs give from W -/
structure RoundL (xs : List Var) (W B : WF) : Prop where
  least : ∀ x ∈ xs, leO (B x.plug) (wOf W x)
  from_ : ∀ s b, B s = some b → ∃ x, x ∈ xs ∧ x.plug = s ∧ wOf W x = some b
theorem RoundL.uniq {xs : List Var} {W B B' : WF} (h : RoundL xs W B) (k : RoundL xs W B') : B = B' := by
  funext s
  cases e : B s with
  | none =>
    cases e' : B' s with
    | none => rfl
    | some b' =>
      obtain ⟨x, hx, rfl, hw⟩ := k.from_ s b' e'
      obtain ⟨v, hv, _⟩ := h.least x hx b' hw
      rw [e] at hv
      cases hv
  | some b =>
    obtain ⟨x, hx, rfl, hw⟩ := h.from_ s b e
    obtain ⟨v, hv, h1⟩ := k.least x hx b hw
    obtain ⟨y, hy, h2, hw'⟩ := k.from_ _ v hv
    obtain ⟨u, hu, h3⟩ := h.least y hy v hw'
    rw [h2, e] at hu
    have := Option.some.inj hu
    subst this
    rw [hv, h1.anti h3]
theorem RoundL.nil (W : WF) : RoundL [] W (fun _ => none) := ⟨fun x hx => absurd hx List.not_mem_nil, fun s b h => by cases h⟩
/-- a further variant that gives nothing better | that gives something better -/
theorem RoundL.keep {xs : List Var} {W B : WF} {x : Var} (h : RoundL xs W B) (k : leO (B x.plug) (wOf W x)) : RoundL (xs ++ [x]) W B := by
  refine ⟨fun y hy => ?_, fun s b hb => ?_⟩
  · rcases List.mem_append.mp hy with hy | hy
    · exact h.least y hy
    · rw [List.mem_singleton] at hy
      subst hy
      exact k
  · obtain ⟨y, h1, h2⟩ := h.from_ s b hb
    exact ⟨y, List.mem_append_left _ h1, h2⟩
def putW (B : WF) (s : Nat) (o : Option Wt) : WF := fun t => if t = s then o else B t
theorem putW_same {B : WF} {s : Nat} {o : Option Wt} : putW B s o s = o := if_pos rfl
theorem putW_ne {B : WF} {s t : Nat} {o : Option Wt} (h : t ≠ s) : putW B s o t = B t := if_neg h
theorem RoundL.put {xs : List Var} {W B : WF} {x : Var} {w : Wt} (h : RoundL xs W B) (hw : wOf W x = some w) (k : ∀ b, B x.plug = some b → ltW w b) : RoundL (xs ++ [x]) W (putW B x.plug (some w)) := by
  refine ⟨fun y hy => ?_, fun s b hb => ?_⟩
  · rcases List.mem_append.mp hy with hy | hy
    · intro v hv
      obtain ⟨b, h1, h2⟩ := h.least y hy v hv
      by_cases e : y.plug = x.plug
      · rw [e] at h1 ⊢
        exact ⟨w, putW_same, (k b h1).le.trans h2⟩
      · exact ⟨b, by rw [putW_ne e]; exact h1, h2⟩
    · rw [List.mem_singleton] at hy
      subst hy
      intro v hv
      rw [hw] at hv
      have := Option.some.inj hv
      subst this
      exact ⟨w, putW_same, .refl _⟩
  · by_cases e : s = x.plug
    · subst e
      rw [putW_same] at hb
      exact ⟨x, List.mem_append_right _ (List.mem_singleton.mpr rfl), rfl, hw.trans hb⟩
    · rw [putW_ne e] at hb
      obtain ⟨y, h1, h2⟩ := h.from_ s b hb
      exact ⟨y, List.mem_append_left _ h1, h2⟩
theorem RoundL.ex (W : WF) (xs : List Var) : ∃ B, RoundL xs W B := by
  have key : ∀ n, ∃ B, RoundL (xs.take n) W B := fun n => by
    induction n with
    | zero => exact ⟨_, .nil W⟩
    | succ n ih =>
      obtain ⟨B, hB⟩ := ih
      cases e : xs[n]? with
      | none => exact ⟨B, by rw [List.take_add_one, e]; simpa using hB⟩
      | some x =>
        rw [List.take_add_one, e]
        show ∃ B, RoundL (xs.take n ++ [x]) W B
        cases hw : wOf W x with
        | none => exact ⟨B, hB.keep fun w h => by rw [hw] at h; cases h⟩
        | some w =>
          by_cases hc : ∀ b, B x.plug = some b → ltW w b
          · exact ⟨_, hB.put hw hc⟩
          · refine ⟨B, hB.keep fun v hv => ?_⟩
            rw [hw] at hv
            have := Option.some.inj hv
            subst this
            refine Classical.byContradiction fun hn => hc fun b hb => Classical.byContradiction fun hlt => hn ⟨b, hb, .of_not hlt⟩
  obtain ⟨B, hB⟩ := key xs.length
  rw [List.take_length] at hB
  exact ⟨B, hB⟩
theorem RoundL.mono {xs : List Var} {W W' B B' : WF} (h : RoundL xs W B) (k : RoundL xs W' B') (hl : ∀ s, leO (W s) (W' s)) (s : Nat) : leO (B s) (B' s) := fun w hw => by
  obtain ⟨x, hx, rfl, h1⟩ := k.from_ s w hw
  obtain ⟨v, h2, h3⟩ := wOf_mono (fun t _ => hl t) w h1
  obtain ⟨b, h4, h5⟩ := h.least x hx v h2
  exact ⟨b, h4, h5.trans h3⟩
/-- after k rounds -/
inductive Rds (F : Fam) : Nat → WF → Prop
  | zero : Rds F 0 (fun _ => none)
  | succ {k : Nat} {W B : WF} : Rds F k W → RoundL F.vs W B → Rds F (k + 1) B
theorem Rds.uniq {F : Fam} {k : Nat} {W W' : WF} (h : Rds F k W) (h' : Rds F k W') : W = W' := by
  induction k generalizing W W' with
  | zero =>
    cases h
    cases h'
    rfl
  | succ k ih =>
    cases h with
    | succ h1 h2 =>
      cases h' with
      | succ h3 h4 =>
        rw [ih h1 h3] at h2
        exact h2.uniq h4
theorem Rds.ex (F : Fam) (k : Nat) : ∃ W, Rds F k W := by
  induction k with
  | zero => exact ⟨_, .zero⟩
  | succ k ih =>
    obtain ⟨W, h⟩ := ih
    obtain ⟨B, hB⟩ := RoundL.ex W F.vs
    exact ⟨B, .succ h hB⟩
theorem Rds.step {F : Fam} {k : Nat} {W B : WF} (h : Rds F k W) (h' : Rds F (k + 1) B) : ∀ s, leO (B s) (W s) := by
  induction k generalizing W B with
  | zero =>
    cases h
    intro s w hw
    cases hw
  | succ k ih =>
    cases h with
    | succ h1 h2 =>
      cases h' with
      | succ h3 h4 => 
        exact fun s => h4.mono h2 (ih h1 h3) s
theorem Rds.down {F : Fam} {j k : Nat} {W B : WF} (h : Rds F j W) (h' : Rds F k B) (hj : j ≤ k) : ∀ s, leO (B s) (W s) := by
  induction k generalizing B with
  | zero =>
    have : j = 0 := by omega
    subst this
    rw [h.uniq h']
    exact fun s => .refl _
  | succ k ih =>
    by_cases e : j = k + 1
    · subst e
      rw [h.uniq h']
      exact fun s => .refl _
    · cases h' with
      | succ h1 h2 => exact fun s => ((h1.step (.succ h1 h2)) s).trans (ih h1 (by omega) s)
theorem Rds.chain {F : Fam} (ok : F.Ok) {k s : Nat} {W B : WF} (h : Rds F k W) (hB : Rds F (k + 1) B) (hne : B s ≠ W s) :
    ∃ (l : List Nat) (w : Wt), l.length = k + 1 ∧ l.Nodup ∧ (∀ t ∈ l, t < F.cnt) ∧ B s = some w ∧ ∀ t ∈ l, ∃ j V v, j ≤ k + 1 ∧ Rds F j V ∧ V t = some v ∧ leW v w := by
  induction k generalizing s W B with
  | zero =>
    cases h
    have hBB := hB
    cases hB with
    | succ h1 h2 =>
      cases e : B s with
      | none => exact absurd e hne
      | some w =>
        obtain ⟨x, hx, rfl, _⟩ := h2.from_ s w e
        exact ⟨[x.plug], w, rfl, List.nodup_cons.mpr ⟨List.not_mem_nil, List.nodup_nil⟩, fun t ht => by rw [List.mem_singleton.mp ht]; exact ok.pl x hx, rfl, fun t ht => by
          rw [List.mem_singleton.mp ht]
          exact ⟨1, B, w, Nat.le_refl _, hBB, e, .refl _⟩⟩
  | succ k ih =>
    have hBB := hB
    have hd := h.step hB s
    cases hB with
    | @succ _ W' _ h1 h2 =>
      have eW := h.uniq h1
      subst eW
      cases e : B s with
      | none =>
        cases e2 : W s with
        | none => exact absurd (e.trans e2.symm) hne
        | some v =>
          obtain ⟨u, hu, _⟩ := hd v e2
          rw [e] at hu
          cases hu
      | some w =>
        obtain ⟨x, hx, rfl, hw⟩ := h2.from_ s w e
        have hWW := h
        cases h with
        | @succ _ U _ h3 h4 =>
          have : ∃ t ∈ x.slots, W t ≠ U t := Classical.byContradiction fun hn => by
            have heq : ∀ t ∈ x.slots, W t = U t := fun t ht => Classical.byContradiction fun z => hn ⟨t, ht, z⟩
            rw [wOf_congr heq] at hw
            obtain ⟨v, hv, hle⟩ := h4.least x hx w hw
            obtain ⟨u, hu, hle2⟩ := hd v hv
            rw [e] at hu
            have := Option.some.inj hu
            subst this
            exact hne (by rw [e, hv, hle.anti hle2])
          obtain ⟨t, ht, htn⟩ := this
          obtain ⟨l, w', hl1, hl2, hl3, hl4, hl5⟩ := ih h3 hWW htn
          obtain ⟨v, hv, hlt⟩ := wOf_child hw t ht
          rw [hl4] at hv
          have := Option.some.inj hv
          subst this
          refine ⟨x.plug :: l, w, by rw [List.length_cons, hl1], List.nodup_cons.mpr ⟨fun hm => ?_, hl2⟩, fun u hu => ?_, rfl, fun u hu => ?_⟩
          · obtain ⟨j, V, v, hj, hV, hv, hle⟩ := hl5 _ hm
            obtain ⟨u, hu, hle2⟩ := hV.down hBB (by omega) _ v hv
            rw [e] at hu
            have := Option.some.inj hu
            subst this
            exact (hle2.trans hle).not_lt hlt
          · rcases List.mem_cons.mp hu with rfl | hu
            · exact ok.pl x hx
            · exact hl3 u hu
          · rcases List.mem_cons.mp hu with rfl | hu
            · exact ⟨k + 2, B, w, Nat.le_refl _, hBB, e, .refl _⟩
            · obtain ⟨j, V, v, hj, hV, hv, hle⟩ := hl5 u hu
              exact ⟨j, V, v, by omega, hV, hv, hle.trans hlt.le⟩
/-- after as many rounds as there are states nothing changes -/
theorem Rds.fix {F : Fam} (ok : F.Ok) {W : WF} (h : Rds F F.cnt W) : RoundL F.vs W W := by
  obtain ⟨B, hB⟩ := RoundL.ex W F.vs
  have : B = W := funext fun s => Classical.byContradiction fun hne => by
    obtain ⟨l, w, h1, h2, h3, _⟩ := h.chain ok (.succ h hB) hne
    have := nodup_le h2 h3
    omega
  rw [this] at hB
  exact hB
def bR : Nat → Nat
  | 0 => 0
  | k + 1 => 1 + 3 * bR k
theorem wS_bound {W : WF} {b : Nat} (h : ∀ t v, W t = some v → v.2 ≤ b) {l : List Nat} {w : Wt} (hw : wS W l = some w) : w.2 ≤ l.length * b := by
  induction l generalizing w with
  | nil =>
    have e : w = (0, 0) := (Option.some.inj hw).symm
    subst e
    exact Nat.zero_le _
  | cons s r ih =>
    obtain ⟨a, c, h1, h2, rfl⟩ := wS_cons.mp hw
    have := h s a h1
    have := ih h2
    show a.2 + c.2 ≤ (r.length + 1) * b
    rw [Nat.succ_mul]
    omega
theorem Rds.bound {F : Fam} (ok : F.Ok) {k : Nat} {W : WF} (h : Rds F k W) : ∀ s v, W s = some v → 1 ≤ v.2 ∧ v.2 ≤ bR k := by
  induction h with
  | zero => intro s v hv; cases hv
  | @succ k W B _ h2 ih =>
    intro s v hv
    obtain ⟨x, hx, _, hw⟩ := h2.from_ s v hv
    obtain ⟨p, b, _, h4, rfl⟩ := wOf_some.mp hw
    have h5 := wS_bound (fun t v hv => (ih t v hv).2) h4
    have h6 := ok.s3 x hx
    have h7 : x.slots.length * bR k ≤ 3 * bR k := Nat.mul_le_mul_right _ h6
    refine ⟨by show 1 ≤ 1 + b.2; omega, ?_⟩
    show 1 + b.2 ≤ 1 + 3 * bR k
    omega
/-- what the least weights are -/
structure FixW (F : Fam) (W : WF) : Prop where
  fix : RoundL F.vs W W
  small : ∀ s v, W s = some v → 1 ≤ v.2 ∧ v.2 ≤ 40
theorem fixW_of {F : Fam} (ok : F.Ok) {k : Nat} {W : WF} (h : Rds F k W) (hk : k ≤ F.cnt) (hf : RoundL F.vs W W) : FixW F W := ⟨hf, fun s v hv => by
  have h1 := h.bound ok s v hv
  have := ok.c4
  have hb : bR k ≤ 40 := by
    have : k = 0 ∨ k = 1 ∨ k = 2 ∨ k = 3 ∨ k = 4 := by omega
    rcases this with rfl | rfl | rfl | rfl | rfl <;> decide
  omega⟩
theorem FixW.filled {F : Fam} {W : WF} (h : FixW F W) {s : Nat} (hs : Filled F s) : ∃ w, W s = some w := by
  induction hs with
  | @mk x hx hp _ ih =>
    obtain ⟨b, hb⟩ := wS_all (W := W) (l := x.slots) fun t ht => Option.isSome_iff_exists.mpr (ih t ht)
    obtain ⟨p, hp⟩ := Option.isSome_iff_exists.mp hp
    obtain ⟨v, hv, _⟩ := h.fix.least x hx _ (wOf_some.mpr ⟨p, b, hp, hb, rfl⟩)
    exact ⟨v, hv⟩
end S
end

section
set_option Elab.async false
set_option linter.all false
set_option autoImplicit false
set_option maxHeartbeats 1000000
namespace S
/-! ### ways -/
inductive Chain (F : Fam) : Nat → List (Nat × Nat) → Nat → Prop
  | nil {s : Nat} : Chain F s [] s
  | cons {p n i s g : Nat} {w : List (Nat × Nat)} : IsStep F p n i s → Chain F s w g → Chain F p ((n, i) :: w) g
theorem Chain.snoc {F : Fam} {p s g n i : Nat} {w : List (Nat × Nat)} (h : Chain F p w s) (k : IsStep F s n i g) : Chain F p (w ++ [(n, i)]) g := by
  induction h with
  | nil => exact .cons k .nil
  | cons h1 _ ih => exact .cons h1 (ih k)
theorem Chain.app {F : Fam} {p s g : Nat} {w v : List (Nat × Nat)} (h : Chain F p w s) (k : Chain F s v g) : Chain F p (w ++ v) g := by
  induction h with
  | nil => exact k
  | cons h1 _ ih => exact .cons h1 (ih k)
theorem Lead.trans {F : Fam} {a b c : Nat} (h : Lead F b a) (k : Lead F c b) : Lead F c a := by
  induction h with
  | refl => exact k
  | step e _ ih => exact .step e ih
/-- t lies on a circle -/
def Circ (F : Fam) (s : Nat) : Prop := ∃ t, Edge F s t ∧ Lead F s t
theorem FinS.inv {F : Fam} {s : Nat} (h : FinS F s) : ∀ x ∈ F.vs, x.plug = s → Can F x → ∀ t ∈ x.slots, FinS F t := by
  cases h with
  | mk h => exact h
theorem Edge.fin {F : Fam} {s t : Nat} (h : Edge F s t) (k : FinS F s) : FinS F t := by
  obtain ⟨i, j, x, hx, hu, hp, hs⟩ := h
  exact k.inv x (List.mem_of_getElem? hx) hp hu.2 t (List.mem_of_getElem? hs)
theorem Edge.reached {F : Fam} {s t : Nat} (h : Edge F s t) : Reached F s ∧ Reached F t := by
  obtain ⟨i, j, x, hx, hu, rfl, hs⟩ := h
  exact ⟨hu.1, .step hu.1 (List.mem_of_getElem? hx) hu.2 (List.mem_of_getElem? hs)⟩
theorem edge_of {F : Fam} {x : Var} {t : Nat} (hx : x ∈ F.vs) (hu : Useful F x) (ht : t ∈ x.slots) : Edge F x.plug t := by
  obtain ⟨i, hi⟩ := List.getElem?_of_mem hx
  obtain ⟨j, hj⟩ := List.getElem?_of_mem ht
  exact ⟨i, j, x, hi, hu, rfl, hj⟩
theorem fin_nocirc {F : Fam} {s : Nat} (h : FinS F s) : ¬ Circ F s := by
  induction h with
  | @mk s hs ih =>
    rintro ⟨t, he, hl⟩
    obtain ⟨i, j, x, hx, hu, hp, hj⟩ := id he
    have ih' := ih x (List.mem_of_getElem? hx) hp hu.2 t (List.mem_of_getElem? hj)
    cases hl with
    | refl => exact ih' ⟨_, he, .refl⟩
    | step e l => exact ih' ⟨_, e, l.trans (.step he .refl)⟩
theorem reached_fin {F : Fam} (h : ∀ r ∈ F.roots, FinS F r) {s : Nat} (hs : Reached F s) : FinS F s := by
  induction hs with
  | root hr => exact h _ hr
  | step _ hx hc ht ih => exact ih.inv _ hx rfl hc _ ht
theorem nocirc_fin {F : Fam} (ok : F.Ok) (h : ∀ s, ¬ Circ F s) (n : Nat) : ∀ (l : List Nat) (s : Nat), F.cnt ≤ l.length + n → l.Nodup → (∀ t ∈ l, t < F.cnt) → (∀ t ∈ l, ∃ u, Edge F t u ∧ Lead F s u) → Reached F s → FinS F s := by
  induction n with
  | zero =>
    intro l s hn hd hb hl hr
    have hs : s ∉ l := fun hm => by
      obtain ⟨u, h1, h2⟩ := hl s hm
      exact h s ⟨u, h1, h2⟩
    have := nodup_le (n := F.cnt) (l := s :: l) (List.nodup_cons.mpr ⟨hs, hd⟩) fun t ht => by
      rcases List.mem_cons.mp ht with rfl | ht
      · exact hr.lt ok
      · exact hb t ht
    rw [List.length_cons] at this
    omega
  | succ n ih =>
    intro l s hn hd hb hl hr
    have hs : s ∉ l := fun hm => by
      obtain ⟨u, h1, h2⟩ := hl s hm
      exact h s ⟨u, h1, h2⟩
    refine .mk fun x hx hp hc t ht => ?_
    subst hp
    have he := edge_of hx ⟨hr, hc⟩ ht
    refine ih (x.plug :: l) t (by rw [List.length_cons]; omega) (List.nodup_cons.mpr ⟨hs, hd⟩) (fun u hu => ?_) (fun u hu => ?_) (.step hr hx hc ht)
    · rcases List.mem_cons.mp hu with rfl | hu
      · exact hr.lt ok
      · exact hb u hu
    · rcases List.mem_cons.mp hu with rfl | hu
      · exact ⟨t, he, .refl⟩
      · obtain ⟨v, h1, h2⟩ := hl u hu
        exact ⟨v, h1, h2.trans (.step he .refl)⟩
theorem circ_iff {F : Fam} (ok : F.Ok) : (∃ s, Circ F s) ↔ ∃ r, r ∈ F.roots ∧ ¬ FinS F r := by
  constructor
  · rintro ⟨s, t, he, hl⟩
    refine Classical.byContradiction fun hn => ?_
    have hall : ∀ r ∈ F.roots, FinS F r := fun r hr => Classical.byContradiction fun z => hn ⟨r, hr, z⟩
    exact fin_nocirc (reached_fin hall he.reached.1) ⟨t, he, hl⟩
  · rintro ⟨r, hr, hf⟩
    refine Classical.byContradiction fun hn => hf ?_
    exact nocirc_fin ok (fun s hs => hn ⟨s, hs⟩) F.cnt [] r (by rw [List.length_nil]; omega) List.nodup_nil (fun t ht => absurd ht List.not_mem_nil) (fun t ht => absurd ht List.not_mem_nil) (.root hr)
theorem Circ.lt {F : Fam} (ok : F.Ok) {s : Nat} (h : Circ F s) : s < F.cnt ∧ Reached F s := by
  obtain ⟨t, he, _⟩ := h
  exact ⟨he.reached.1.lt ok, he.reached.1⟩
/-- from some root there is a way to what is reached, or it is a root -/
theorem reached_lead {F : Fam} {s : Nat} (h : Reached F s) : ∃ r ∈ F.roots, Lead F s r := by
  induction h with
  | root hr => exact ⟨_, hr, .refl⟩
  | @step x t hr hx hc ht ih =>
    obtain ⟨r, h1, h2⟩ := ih
    exact ⟨r, h1, h2.trans (.step (edge_of hx ⟨hr, hc⟩ ht) .refl)⟩
end S
end

section
set_option Elab.async false
set_option linter.all false
set_option autoImplicit false
set_option maxHeartbeats 1000000
namespace S
theorem Chain.seq {F : Fam} {p g : Nat} {w : List (Nat × Nat)} (h : Chain F p w g) : ∃ st : Nat → Nat, st 0 = p ∧ st w.length = g ∧ ∀ j n i, w[j]? = some (n, i) → IsStep F (st j) n i (st (j + 1)) := by
  induction h with
  | @nil s => exact ⟨fun _ => s, rfl, rfl, fun j n i hj => by simp at hj⟩
  | @cons p n i s g w h1 _ ih =>
    obtain ⟨st, a, b, c⟩ := ih
    refine ⟨fun j => match j with
      | 0 => p
      | j + 1 => st j, rfl, b, fun j n' i' hj => ?_⟩
    cases j with
    | zero =>
      have e := Option.some.inj hj
      injection e with e1 e2
      subst e1 e2
      show IsStep F p n i (st 0)
      rw [a]
      exact h1
    | succ j => exact c j n' i' hj
theorem Chain.seq2 {F : Fam} {p s g : Nat} {w v : List (Nat × Nat)} (h : Chain F p w s) (k : Chain F s v g) : ∃ st : Nat → Nat, st 0 = p ∧ st w.length = s ∧ st (w.length + v.length) = g ∧ ∀ j n i, (w ++ v)[j]? = some (n, i) → IsStep F (st j) n i (st (j + 1)) := by
  induction h with
  | @nil s =>
    obtain ⟨st, a, b, c⟩ := k.seq
    exact ⟨st, a, a, by rw [List.length_nil, Nat.zero_add]; exact b, c⟩
  | @cons p n i s g w h1 _ ih =>
    obtain ⟨st, a, b, c, d⟩ := ih k
    refine ⟨fun j => match j with
      | 0 => p
      | j + 1 => st j, rfl, b, ?_, fun j n' i' hj => ?_⟩
    · rw [List.length_cons, show w.length + 1 + v.length = (w.length + v.length) + 1 by omega]
      exact c
    · cases j with
      | zero =>
        have e := Option.some.inj hj
        injection e with e1 e2
        subst e1 e2
        show IsStep F p n i (st 0)
        rw [a]
        exact h1
      | succ j => exact d j n' i' hj
theorem IsStep.var {F : Fam} {p n i t : Nat} (h : IsStep F p n i t) : ∃ x, F.vs[n]? = some x ∧ x.plug = p ∧ x.slots[i]? = some t ∧ x.price.isSome = true ∧ ∀ s ∈ x.slots, Filled F s := by
  obtain ⟨x, h1, h2, h3, h4⟩ := h
  exact ⟨x, h1, h3, h4, h2.2.1, h2.2.2⟩
theorem Circ.filled {F : Fam} {s : Nat} (h : Circ F s) : Filled F s := by
  obtain ⟨t, ⟨i, j, x, hx, hu, rfl, _⟩, _⟩ := h
  exact .mk (List.mem_of_getElem? hx) hu.2.1 hu.2.2
/-- places after a further head of length d -/
theorem places_step {pl : List Nat} {k j d v : Nat} (hl : pl.length = k + 1) (h : pl[j]? = some v) : (pl.map (· + d) ++ [0])[j]? = some (v + d) := by
  have hj := (List.getElem?_eq_some_iff.mp h).1
  rw [List.getElem?_append_left (by rw [List.length_map]; exact hj), List.getElem?_map, h] <;> rfl
theorem places_new {pl : List Nat} {k d : Nat} (hl : pl.length = k + 1) : (pl.map (· + d) ++ [0])[k + 1]? = some 0 := by
  rw [List.getElem?_append_right (by rw [List.length_map, hl]; exact Nat.le_refl _), List.length_map, hl, Nat.sub_self] <;> rfl
end S
end

section
set_option Elab.async false
set_option linter.all false
set_option autoImplicit false
set_option maxRecDepth 100000
set_option maxHeartbeats 2000000
namespace S
open PySem PySem.Spec PyProof.Rows L2 Evl
/-! ### data -/
def nV (n : Nat) : V := .int (n : Int)
def pV : Option Nat → V
  | none => .non
  | some p => .int (p : Int)
/-- a variant's tuple at a, its slots' at s -/
structure VarAt (H : Hp) (a s : Addr) (x : Var) : Prop where
  h : H a = some (.tup [nV x.plug, .ref s, pV x.price])
  hs : H s = some (.tup (x.slots.map nV))
structure Lay where
  r : Addr
  b : Addr
  va : Nat → Addr
  sa : Nat → Addr
structure FamAt (H : Hp) (f : Addr) (L : Lay) (F : Fam) : Prop where
  h0 : H f = some (.tup [nV F.cnt, .ref L.r, .ref L.b])
  h1 : H L.r = some (.tup (F.roots.map nV))
  h2 : H L.b = some (.tup ((List.range F.vs.length).map fun i => .ref (L.va i)))
  h3 : ∀ i x, F.vs[i]? = some x → VarAt H (L.va i) (L.sa i) x
  ok : F.Ok
theorem VarAt.ex {H H' : Hp} {a s : Addr} {x : Var} (v : VarAt H a s x) (e : Ex H H') : VarAt H' a s x := ⟨e _ _ v.h, e _ _ v.hs⟩
theorem FamAt.ex {H H' : Hp} {f : Addr} {L : Lay} {F : Fam} (v : FamAt H f L F) (e : Ex H H') : FamAt H' f L F := ⟨e _ _ v.h0, e _ _ v.h1, e _ _ v.h2, fun i x h => (v.h3 i x h).ex e, v.ok⟩
theorem FamAt.vs (F : Fam) (L : Lay) {i : Nat} {x : V} (h : ((List.range F.vs.length).map fun i => V.ref (L.va i))[i]? = some x) : ∃ y, F.vs[i]? = some y ∧ x = .ref (L.va i) := by
  rw [List.getElem?_map] at h
  cases e : (List.range F.vs.length)[i]? with
  | none => rw [e] at h; cases h
  | some j =>
    rw [e] at h
    obtain ⟨h1, h2⟩ := List.getElem?_eq_some_iff.mp e
    rw [List.getElem_range] at h2
    subst h2
    rw [List.length_range] at h1
    exact ⟨_, List.getElem?_eq_getElem h1, (Option.some.inj h).symm⟩
theorem FamAt.at (F : Fam) (L : Lay) {i : Nat} (h : i < F.vs.length) : ((List.range F.vs.length).map fun i => V.ref (L.va i))[i]? = some (.ref (L.va i)) := by
  rw [List.getElem?_map, List.getElem?_range h] <;> rfl
theorem map_get {α : Type} {c : α → V} {l : List α} {i : Nat} {x : V} (h : (l.map c)[i]? = some x) : ∃ a, l[i]? = some a ∧ x = c a := by
  rw [List.getElem?_map] at h
  cases e : l[i]? with
  | none => rw [e] at h; cases h
  | some a => rw [e] at h; exact ⟨a, rfl, (Option.some.inj h).symm⟩
theorem get_map {α β : Type} {c : α → β} {l : List α} {i : Nat} {a : α} (h : l[i]? = some a) : (l.map c)[i]? = some (c a) := by
  rw [List.getElem?_map, h] <;> rfl
theorem get_lt {α : Type} {l : List α} {i : Nat} {a : α} (h : l[i]? = some a) : i < l.length := (List.getElem?_eq_some_iff.mp h).1
theorem get_mem {α : Type} {l : List α} {i : Nat} {a : α} (h : l[i]? = some a) : a ∈ l := List.mem_of_getElem? h
/-! ### what the written part says -/
structure Txt (K : PySem.W.Frag) (mg : Str → Option Value) : Prop where
  says : He.SaysD fa fn K
  glo : ∀ x, He.Fa.glo x ∈ fa → mg x = some (.ref (He.ga K x))
  m_all : mg "all" = none
  m_any : mg "any" = none
  m_abs : mg "abs" = none
  m_bool : mg "bool" = none
  m_enumerate : mg "enumerate" = none
  m_int : mg "int" = none
  m_isinstance : mg "isinstance" = none
  m_len : mg "len" = none
  m_list : mg "list" = none
  m_max : mg "max" = none
  m_min : mg "min" = none
  m_range : mg "range" = none
  m_reversed : mg "reversed" = none
  m_sorted : mg "sorted" = none
  m_sum : mg "sum" = none
  m_tuple : mg "tuple" = none
  m_super : mg "super" = none
  pt : PtTxt K (He.ga K "TooManyParts") (ptFI K) (ptCC K)
  xf : XfC K (He.ga K "TooManyParts")
  tt : PySem.W.excIn K (He.ga K "TooManyTrees") He.veBase "ValueError.__new__" = true ∧ PySem.W.keepIn K (.ref (He.ga K "TooManyTrees")) = true ∧ PySem.W.subIn K (.ref (He.ga K "TooManyTrees")) (.type "BaseException") = some true ∧ PySem.W.typeIn K (.ref (He.ga K "TooManyTrees")) = some (.type "type")
  ett : PySem.W.exmOne K (.ref (He.ga K "TooManyTrees")) (.ref (He.ga K "TooManyTrees")) = some true
  etp : PySem.W.exmOne K (.ref (He.ga K "TooManyParts")) (.ref (He.ga K "TooManyParts")) = some true
  m_MOST_TREES : ∃ t, mg "MOST_TREES" = some (.int (10 ^ 30) t)
  m_MOST_PARTS : ∃ t, mg "MOST_PARTS" = some (.int 100 t)
/-- the def x keeps its promise -/
structure Good (P : Program) (w : World) (K : PySem.W.Frag) (mg : Str → Option Value) (base : Heap) (CX : CXT) (k : Nat) (x : Str) (ps : List Str) (sp : Sp) : Prop where
  ex : ∃ fd, FnOk P w K mg base CX k (He.ga K x) fd ps sp ∧ Binds K fd ps []
  gl : mg x = some (.ref (He.ga K x))
  kp : PySem.W.keepIn K (.ref (He.ga K x)) = true
theorem hTT : He.Fa.glo "TooManyTrees" ∈ fa := by
  have h : fa[66]? = some (.glo "TooManyTrees") := rfl
  exact List.mem_of_getElem? h
theorem hTP : He.Fa.glo "TooManyParts" ∈ fa := by
  have h : fa[67]? = some (.glo "TooManyParts") := rfl
  exact List.mem_of_getElem? h
section
variable {P : Program} {w : World} {K : PySem.W.Frag} {mg : Str → Option Value} {base : Heap}
theorem Good.mono {CX : CXT} {j k : Nat} {x : Str} {ps : List Str} {sp : Sp} (G : Good P w K mg base CX j x ps sp) (h : j ≤ k) : Good P w K mg base CX k x ps sp := by
  obtain ⟨⟨fd, F, b⟩, g, kp⟩ := G
  exact ⟨⟨fd, F.mono h, b⟩, g, kp⟩
theorem fun_of (T : Txt K mg) (j i : Nat) (x : Str) (kwd : List (Str × He.Dv)) (hj : fn[j]? = some (dOf i x kwd)) (hg : fa[j]? = some (.glo x)) :
    (∃ fd, FunD K x x (defArgs (top i)) (defBody (top i)) (defScope (top i)) [] (kwd.map fun q => (q.1, q.2.v K)) (He.ga K x) fd) ∧ mg x = some (.ref (He.ga K x)) :=
  ⟨He.SaysD.def_ T.says j (d := dOf i x kwd) hj, T.glo x (List.mem_of_getElem? hg)⟩
/-- a def that lets nothing out -/
theorem Good.of (T : Txt K mg) {j i k : Nat} {x : Str} {N ps : List Str} {sp : Sp} (hj : fn[j]? = some (dOf i x [])) (hg : fa[j]? = some (.glo x)) (S : FnScope N ps (defScope (top i)))
    (hb : ∀ (kV doc pm : Value) (an : Option Addr) (cdv ct : Value) (us : List Value), us.length = ps.length → bindArgs (PySem.W.fnOf x x (defArgs (top i)) (defBody (top i)) (defScope (top i)) .none kV doc pm an cdv ct) ⟨us, []⟩ = pure (ps.zip us))
    (len : ∀ vs H Q E, sp vs H Q E → vs.length = ps.length)
    (hbody : ∀ (cdv : Value) (A : Around) (outer : List Env) (s : Shared) (H : Hp) (vs : List V) (Q : VK) (E : XK), Room k (A.deeper (envOfC x (defScope (top i)) s.heap.objs.size (He.ga K x) cdv)) → sp vs H Q E →
      ∃ t, PSs (cxOf CX0 P w K mg base N x (defScope (top i)) (He.ga K x) cdv A outer s H E).nox (defBody (top i)) t ∧ t { nx := fun _ H' => Q .non H', rt := Q } (start N vs) H) : Good P w K mg base CX0 (k + 1) x ps sp := by
  obtain ⟨⟨fd, F⟩, g⟩ := fun_of T j i x [] hj hg
  refine ⟨⟨fd, F.ok S len fun cdv A outer s H vs Q E hr h => ?_, F.bindsN hb⟩, g, F.kp⟩
  obtain ⟨t, h1, h2⟩ := hbody cdv A outer s H vs Q E hr h
  exact ⟨t, PSs.nox h1, h2⟩
/-- a def that may raise -/
theorem Good.ofX (T : Txt K mg) {j i k : Nat} {x : Str} {N ps : List Str} {sp : Sp} (hj : fn[j]? = some (dOf i x [])) (hg : fa[j]? = some (.glo x)) (S : FnScope N ps (defScope (top i)))
    (hb : ∀ (kV doc pm : Value) (an : Option Addr) (cdv ct : Value) (us : List Value), us.length = ps.length → bindArgs (PySem.W.fnOf x x (defArgs (top i)) (defBody (top i)) (defScope (top i)) .none kV doc pm an cdv ct) ⟨us, []⟩ = pure (ps.zip us))
    (len : ∀ vs H Q E, sp vs H Q E → vs.length = ps.length)
    (hbody : ∀ (cdv : Value) (A : Around) (outer : List Env) (s : Shared) (H : Hp) (vs : List V) (Q : VK) (E : XK), Room k (A.deeper (envOfC x (defScope (top i)) s.heap.objs.size (He.ga K x) cdv)) → sp vs H Q E →
      ∃ t, PSs (cxOf (L2.CX P w) P w K mg base N x (defScope (top i)) (He.ga K x) cdv A outer s H E) (defBody (top i)) t ∧ t { nx := fun _ H' => Q .non H', rt := Q } (start N vs) H) : Good P w K mg base (L2.CX P w) (k + 1) x ps sp := by
  obtain ⟨⟨fd, F⟩, g⟩ := fun_of T j i x [] hj hg
  exact ⟨⟨fd, F.ok S len fun cdv A outer s H vs Q E hr h => hbody cdv A outer s H vs Q E hr h, F.bindsN hb⟩, g, F.kp⟩
end
section
variable {X : Cx} {k : Nat} {x : Str} {ps : List Str} {sp : Sp} {p pos : Pos} {e : Expr} {es : List Expr} {t : TA}
theorem pe_c (G : Good X.prog X.w X.K X.mg X.base CX0 k x ps sp) (hr : Room k X.A) (ha : PA X (e :: es) t) (hg : Gl X x := by rfl) (hdb : (x == ("__debug__" : Str)) = false := by decide)
    (he : starEach (e :: es) X.env = (false, eval e X.env) :: starEach es X.env := by rfl) (hpl : (backTo pos (starEach es X.env)).any (·.1) = false := by rfl) :
    PE X (.Call (.Name x p) (e :: es) [] pos) (tCall sp [] E0 t) := by
  obtain ⟨⟨fd, F, b⟩, g, kp⟩ := G
  exact pe_call F hr hg g kp b .nil pass0 ha hdb he hpl
/-- .. of a def that may raise, in one that may: what leaves it leaves this one -/
theorem pe_cX {E : XK} (G : Good X.prog X.w X.K X.mg X.base (L2.CX X.prog X.w) k x ps sp) (hr : Room k X.A) (hx : Passes (L2.CX X.prog X.w) X E) (ha : PA X (e :: es) t) (hg : Gl X x := by rfl) (hdb : (x == ("__debug__" : Str)) = false := by decide)
    (he : starEach (e :: es) X.env = (false, eval e X.env) :: starEach es X.env := by rfl) (hpl : (backTo pos (starEach es X.env)).any (·.1) = false := by rfl) :
    PE X (.Call (.Name x p) (e :: es) [] pos) (tCall sp [] E t) := by
  obtain ⟨⟨fd, F, b⟩, g, kp⟩ := G
  exact pe_call F hr hg g kp b .nil hx ha hdb he hpl
/-- .. within a try -/
theorem pe_cS {W : WX} (G : Good X.prog X.w X.K X.mg X.base (L2.CX X.prog X.w) k x ps sp) (hr : Room k X.A) (tk : Takes X W) (ha : PA X (e :: es) t) (hg : Gl X x := by rfl) (hdb : (x == ("__debug__" : Str)) = false := by decide)
    (he : starEach (e :: es) X.env = (false, eval e X.env) :: starEach es X.env := by rfl) (hpl : (backTo pos (starEach es X.env)).any (·.1) = false := by rfl) :
    PE X (.Call (.Name x p) (e :: es) [] pos) (tCallS sp (WE W) t) := by
  obtain ⟨⟨fd, F, b⟩, g, kp⟩ := G
  exact pe_callS F hr hg g kp b (fun σ => passAt tk σ) ha hdb he hpl
end
/-- a value's truth -/
def tTrue (K : PySem.W.Frag) (ta : TE) : TT := fun σ H Q => ta σ H fun x H' => ∃ k, TruV K x H' k ∧ Q k H'
theorem pt_tru {X : Cx} {a : Expr} {ta : TE} (ha : PE X a ta) (he : ∀ whole, isTrue a X.env whole = (do let v ← whole; standAt a.pos; holding [v] (truthy v))) : PT X a (tTrue X.K ta) := pt_truth ha he
/-! ### rules by a written part that is told (within comprehensions) -/
section
variable {X : Cx} {K : PySem.W.Frag}
theorem k_ixL (h : X.K = K) : IxR X (rIxL K) := h ▸ ix_list
theorem k_ixT (h : X.K = K) : IxR X (rIxT K) := h ▸ ix_tup
theorem k_in (h : X.K = K) : OpR X (compareOp .In) (rIn K false) := h ▸ op_in_seq
theorem k_notIn (h : X.K = K) : OpR X (compareOp .NotIn) (rIn K true) := h ▸ op_notIn_seq
theorem k_len (h : X.K = K) : CallR X (.builtin "len") (fun xs H Q => ∃ p ys, xs = [.ref p] ∧ (SqL K H p ys ∨ SqT K H p ys) ∧ Q (.int ys.length) H) := h ▸ call_len_seq
theorem k_piT {tg l : Expr} {tl : TE} (h : X.K = K) (hl : PE X l tl) : PI X tg l (iTup K tl) := h ▸ pi_tup hl
theorem k_piL {tg l : Expr} {tl : TE} (h : X.K = K) (hl : PE X l tl) : PI X tg l (iList K tl) := h ▸ pi_list hl
theorem k_pgT {es : List Expr} {k : Nat} {t : TGs} {n : Nat} {pos : Pos} (h : X.K = K) (hg : PG X (.Tuple es k pos) (gTup X.K n t)) : PG X (.Tuple es k pos) (gTup K n t) := h ▸ hg
end
/-! ### what evaluates to what -/
section
variable {K : PySem.W.Frag} {σ : L2.St} {H H' : Hp} {ta tb te tl : TE} {t : TT} {v : V}
/-- some value, of which P holds -/
def EX (te : TE) (σ : L2.St) (H : Hp) (P : V → Hp → Prop) : Prop := ∀ H1, Ex H H1 → ∀ Q : VK, (∀ v H2, Ex H1 H2 → P v H2 → Q v H2) → te σ H1 Q
/-- a tuple of these -/
def ET (te : TE) (σ : L2.St) (H : Hp) (xs : List V) : Prop := ∀ H1, Ex H H1 → ∀ Q : VK, (∀ p H2, Ex H1 H2 → H2 p = some (.tup xs) → Q (.ref p) H2) → te σ H1 Q
theorem EX.mono {P : V → Hp → Prop} (e : Ex H H') (h : EX te σ H P) : EX te σ H' P := fun H1 a Q q => h H1 (e.trans a) Q q
theorem ET.mono {xs : List V} (e : Ex H H') (h : ET te σ H xs) : ET te σ H' xs := fun H1 a Q q => h H1 (e.trans a) Q q
theorem et_of {a : Addr} {xs : List V} (h : Ev te σ H (.ref a)) (hx : H a = some (.tup xs)) : ET te σ H xs := fun H1 e Q q => h H1 e Q fun H2 e2 => q a H2 e2 (e2 _ _ (e _ _ hx))
theorem et_new {xs : List V} (h : EvU te σ H xs) : ET te σ H xs := fun H1 e Q q => h H1 e Q fun p H2 _ e2 hp => q p H2 e2 hp
theorem ev_ixT {p : Addr} {xs : List V} {i : Nat} (ha : Ev ta σ H (.ref p)) (hb : Ev tb σ H (.int (i : Int))) (h : H p = some (.tup xs)) (hx : xs[i]? = some v) : Ev (tOp (rIxT K) ta tb) σ H v := ev_op ha hb (rv_ixT (SqT.of h) (atI_nat hx))
theorem ev_ixL {p : Addr} {xs : List V} {i : Nat} (ha : Ev ta σ H (.ref p)) (hb : Ev tb σ H (.int (i : Int))) (h : H p = some (.lst xs)) (hx : xs[i]? = some v) : Ev (tOp (rIxL K) ta tb) σ H v := ev_op ha hb (rv_ixL (SqL.of h) (atI_nat hx))
theorem ev_isN (h : Ev te σ H v) : Ev (tOp (fun x y H Q => y = .non ∧ Q (.bl (decide (x = .non))) H) te (tC .non)) σ H (.bl (decide (v = .non))) := ev_op h ev_c (rv_val fun H1 _ Q q => ⟨rfl, q⟩)
theorem ev_notN (h : Ev te σ H v) : Ev (tOp (fun x y H Q => y = .non ∧ Q (.bl (!decide (x = .non))) H) te (tC .non)) σ H (.bl (!decide (v = .non))) := ev_op h ev_c (rv_val fun H1 _ Q q => ⟨rfl, q⟩)
/-! a family's parts -/
variable {f : Addr} {L : Lay} {F : Fam}
theorem ev_f0 (h : Ev te σ H (.ref f)) (hF : FamAt H f L F) : Ev (tOp (rIxT K) te (tC (.int 0))) σ H (nV F.cnt) := ev_ixT (i := 0) h ev_c hF.h0 rfl
theorem ev_f1 (h : Ev te σ H (.ref f)) (hF : FamAt H f L F) : Ev (tOp (rIxT K) te (tC (.int 1))) σ H (.ref L.r) := ev_ixT (i := 1) h ev_c hF.h0 rfl
theorem ev_f2 (h : Ev te σ H (.ref f)) (hF : FamAt H f L F) : Ev (tOp (rIxT K) te (tC (.int 2))) σ H (.ref L.b) := ev_ixT (i := 2) h ev_c hF.h0 rfl
variable {a s : Addr} {x : Var}
theorem ev_v0 (h : Ev te σ H (.ref a)) (hv : VarAt H a s x) : Ev (tOp (rIxT K) te (tC (.int 0))) σ H (nV x.plug) := ev_ixT (i := 0) h ev_c hv.h rfl
theorem ev_v1 (h : Ev te σ H (.ref a)) (hv : VarAt H a s x) : Ev (tOp (rIxT K) te (tC (.int 1))) σ H (.ref s) := ev_ixT (i := 1) h ev_c hv.h rfl
theorem ev_v2 (h : Ev te σ H (.ref a)) (hv : VarAt H a s x) : Ev (tOp (rIxT K) te (tC (.int 2))) σ H (pV x.price) := ev_ixT (i := 2) h ev_c hv.h rfl
/-! ### comprehensions over l, its items told by c -/
variable {α : Type}
theorem cw_turn2 {H H' : Hp} {l : List α} {f : α → Bool} {g : α → V} {Dl : Addr} {i : Nat} {a : α} {σ2 : L2.St} (ha : l[i]? = some a) (hz : l.length ≤ 40000) (p : H Dl = none ∧ Ex H H' ∧ H' Dl = some (.lst (((l.take i).filter f).map g))) (ht : EvT t σ2 H (f a)) (he : f a = true → Ev te σ2 H (g a)) :
    t σ2 H' fun b H3 => if b = true then te σ2 H3 fun y H4 => ∃ acc, H4 Dl = some (.lst acc) ∧ acc.length < sizeLine ∧ (H Dl = none ∧ Ex H (upd H4 Dl (.lst (acc ++ [y]))) ∧ (upd H4 Dl (.lst (acc ++ [y]))) Dl = some (.lst (((l.take (i + 1)).filter f).map g)))
      else (H Dl = none ∧ Ex H H3 ∧ H3 Dl = some (.lst (((l.take (i + 1)).filter f).map g))) := by
  obtain ⟨p1, p2, p3⟩ := p
  refine ht H' p2 _ fun H3 e3 => ?_
  cases hf : f a with
  | true =>
    refine he hf H3 (p2.trans e3) _ fun H4 e4 => ⟨_, e4 Dl _ (e3 Dl _ p3), ?_, p1, Ex.mut ((p2.trans e3).trans e4) p1, ?_⟩
    · rw [List.length_map]
      have h1 := List.length_filter_le f (l.take i)
      rw [List.length_take] at h1
      exact sz_lt (by omega)
    · rw [upd_same, List.take_add_one, ha, List.filter_append, List.map_append]
      show _ = some (HO.lst (List.map g (List.filter f (List.take i l)) ++ List.map g (List.filter f [a])))
      rw [List.filter_cons, if_pos hf] <;> rfl
  | false =>
    refine ⟨p1, p2.trans e3, ?_⟩
    rw [List.take_add_one, ha, List.filter_append, List.map_append]
    have e0 : List.filter f (some a).toList = [] := by
      show List.filter f [a] = []
      rw [List.filter_cons, if_neg (by rw [hf]; exact Bool.false_ne_true)] <;> rfl
    rw [e0, List.map_nil, List.append_nil]
    exact e3 Dl _ p3
/-- over a tuple, with a test -/
theorem el_lcT {j : Nat} {vs : List Nat} (l : List α) (c : α → V) (f : α → Bool) (g : α → V) (h : ET tl σ H (l.map c)) (hz : l.length ≤ 40000)
    (ht : ∀ a, a ∈ l → ∀ H1, Ex H H1 → EvT t ((wipe σ vs).set j (some (c a))) H1 (f a)) (he : ∀ a, a ∈ l → f a = true → ∀ H1, Ex H H1 → Ev te ((wipe σ vs).set j (some (c a))) H1 (g a)) (hw : ∀ x, wipe ((wipe σ vs).set j (some x)) vs = wipe σ vs := by intro _; rfl) :
    EvL (tLc (iTup K tl) (gName j) t te vs) σ H ((l.filter f).map g) := fun H0 e Q q => h H0 e _ fun p H1 e1 hp => ⟨p, rfl, ⟨_, SqT.of hp⟩, fun Dl hD =>
  lc_tup (xs := l.map c) (fun i H' => H1 Dl = none ∧ Ex H1 H' ∧ H' Dl = some (.lst (((l.take i).filter f).map g))) ⟨hD, Ex.new hD, upd_same⟩ (fun i H' _ p => SqT.of (p.2.1 _ _ hp))
    (fun i x H' hi p => by
      obtain ⟨a, ha, rfl⟩ := map_get hi
      exact ⟨hw _, cw_turn2 ha hz p (ht a (get_mem ha) H1 (e.trans e1)) (fun hf => he a (get_mem ha) hf H1 (e.trans e1))⟩)
    (fun H' p => q Dl H' (fresh_back e1 p.1) (e1.trans p.2.1) (by
      rw [List.length_map, List.take_length] at p
      exact p.2.2))⟩
/-- over a list that stands -/
theorem el_lcL' {j : Nat} {vs : List Nat} {a0 : Addr} (l : List α) (c : α → V) (f : α → Bool) (g : α → V) (h : Ev tl σ H (.ref a0)) (hx : H a0 = some (.lst (l.map c))) (hz : l.length ≤ 40000)
    (ht : ∀ a, a ∈ l → ∀ H1, Ex H H1 → EvT t ((wipe σ vs).set j (some (c a))) H1 (f a)) (he : ∀ a, a ∈ l → f a = true → ∀ H1, Ex H H1 → Ev te ((wipe σ vs).set j (some (c a))) H1 (g a)) (hw : ∀ x, wipe ((wipe σ vs).set j (some x)) vs = wipe σ vs := by intro _; rfl) :
    EvL (tLc (iList K tl) (gName j) t te vs) σ H ((l.filter f).map g) := fun H0 e Q q => h H0 e _ fun H1 e1 => ⟨a0, rfl, ⟨_, SqL.of (e1 _ _ (e _ _ hx))⟩, fun Dl hD =>
  lc_list (xs := l.map c) (fun i H' => H1 Dl = none ∧ Ex H1 H' ∧ H' Dl = some (.lst (((l.take i).filter f).map g))) ⟨hD, Ex.new hD, upd_same⟩ (fun i H' _ p => SqL.of (p.2.1 _ _ (e1 _ _ (e _ _ hx))))
    (fun i x H' hi p => by
      obtain ⟨a, ha, rfl⟩ := map_get hi
      exact ⟨hw _, cw_turn2 ha hz p (ht a (get_mem ha) H1 (e.trans e1)) (fun hf => he a (get_mem ha) hf H1 (e.trans e1))⟩)
    (fun H' p => q Dl H' (fresh_back e1 p.1) (e1.trans p.2.1) (by
      rw [List.length_map, List.take_length] at p
      exact p.2.2))⟩
/-- over range(n) -/
theorem el_lcR {j n : Nat} {vs : List Nat} {ta : TA} (f : Nat → Bool) (g : Nat → V) (h : EvA ta σ H [nV n]) (hz : n ≤ 40000)
    (ht : ∀ a, a < n → ∀ H1, Ex H H1 → EvT t ((wipe σ vs).set j (some (nV a))) H1 (f a)) (he : ∀ a, a < n → f a = true → ∀ H1, Ex H H1 → Ev te ((wipe σ vs).set j (some (nV a))) H1 (g a)) (hw : ∀ x, wipe ((wipe σ vs).set j (some x)) vs = wipe σ vs := by intro _; rfl) :
    EvL (tLc (iRng1 ta) (gName j) t te vs) σ H (((List.range n).filter f).map g) := fun H0 e Q q => h H0 e _ fun H1 e1 => ⟨(n : Int), rfl, by omega, by omega, fun Dl hD =>
  lc_range (lo := 0) (n := (n : Int).toNat) (fun i H' => H1 Dl = none ∧ Ex H1 H' ∧ H' Dl = some (.lst ((((List.range n).take i).filter f).map g))) ⟨hD, Ex.new hD, upd_same⟩
    (fun i H' hi p => by
      rw [Int.toNat_natCast] at hi
      have ha : (List.range n)[i]? = some i := List.getElem?_range hi
      have e0 : V.int ((0 : Int) + (i : Int)) = nV i := by show V.int _ = V.int _; rw [Int.zero_add]
      rw [e0]
      exact ⟨hw _, cw_turn2 ha (by rw [List.length_range]; exact hz) p (ht i hi H1 (e.trans e1)) (fun hf => he i hi hf H1 (e.trans e1))⟩)
    (fun H' p => q Dl H' (fresh_back e1 p.1) (e1.trans p.2.1) (by
      rw [Int.toNat_natCast] at p
      have z : (List.range n).take n = List.range n := List.take_of_length_le (by rw [List.length_range]; exact Nat.le_refl _)
      rw [z] at p
      exact p.2.2))⟩
theorem filter_true (l : List α) : l.filter (fun _ => true) = l := List.filter_eq_self.mpr fun _ _ => rfl
theorem et_yes : EvT tYes σ H true := fun H1 _ Q q => q H1 (Ex.refl H1)
/-- all, any, sum of a new list -/
theorem ev_allN {bs : List Bool} (h : EvL te σ H (bs.map V.bl)) : Ev (tCB (rAll K) (tCons te tNil)) σ H (.bl (bs.all id)) := fun H1 e Q q => h H1 e _ fun p H2 _ e2 hp => ⟨p, bs, rfl, SqL.of hp, q H2 e2⟩
theorem ev_anyN {bs : List Bool} (h : EvL te σ H (bs.map V.bl)) : Ev (tCB (rAny K) (tCons te tNil)) σ H (.bl (bs.any id)) := fun H1 e Q q => h H1 e _ fun p H2 _ e2 hp => ⟨p, bs, rfl, SqL.of hp, q H2 e2⟩
theorem ev_sumN {ns : List Int} (h : EvL te σ H (ns.map V.int)) : Ev (tCB (rSum K) (tCons te tNil)) σ H (.int ns.sum) := fun H1 e Q q => h H1 e _ fun p H2 _ e2 hp => ⟨p, ns, rfl, SqL.of hp, q H2 e2⟩
/-- a new list times a number -/
theorem el_rep {xs : List V} {n : Nat} (h : EvL ta σ H xs) (hb : Ev tb σ H (nV n)) (hz : xs.length * n ≤ 100000) (hn : n ≤ 100000) : EvL (tOp rRep ta tb) σ H (List.replicate n xs).flatten := fun H1 e Q q =>
  h H1 e _ fun p H2 hp e2 h2 => hb H2 (e.trans e2) _ fun H3 e3 => ⟨p, (n : Int), xs, rfl, rfl, e3 _ _ h2, by omega, by omega, by rw [Int.toNat_natCast]; exact sz_of hz, fun l hl => by
    rw [Int.toNat_natCast]
    exact q l _ (fresh_back (e2.trans e3) hl) ((e2.trans e3).trans (Ex.new hl)) upd_same⟩
theorem flat_rep (n : Nat) (v : V) : (List.replicate n [v]).flatten = List.replicate n v := by
  induction n with
  | zero => rfl
  | succ n ih => rw [List.replicate_succ, List.flatten_cons, ih, List.replicate_succ] <;> rfl
/-! ### statements -/
variable {D : Ends}
theorem s_asgX {i : Nat} {P : V → Hp → Prop} (h : EX te σ H P) (k : ∀ v H1, Ex H H1 → P v H1 → D.nx (σ.set i (some v)) H1) : tAsg te (gName i) D σ H := h H (Ex.refl H) _ fun v H1 e p => k v H1 e p
theorem s_asgT {i : Nat} {xs : List V} (h : ET te σ H xs) (k : ∀ p H1, Ex H H1 → H1 p = some (.tup xs) → D.nx (σ.set i (some (.ref p))) H1) : tAsg te (gName i) D σ H := h H (Ex.refl H) _ fun p H1 e hp => k p H1 e hp
theorem s_retT {xs : List V} (h : ET te σ H xs) (k : ∀ p H1, Ex H H1 → H1 p = some (.tup xs) → D.rt (.ref p) H1) : tRet te D σ H := h H (Ex.refl H) _ fun p H1 e hp => k p H1 e hp
theorem s_retX {P : V → Hp → Prop} (h : EX te σ H P) (k : ∀ v H1, Ex H H1 → P v H1 → D.rt v H1) : tRet te D σ H := h H (Ex.refl H) _ fun v H1 e p => k v H1 e p
/-- a, b, c = a tuple of three -/
theorem s_asg3 {i j k : Nat} {x y z : V} (h : ET te σ H [x, y, z]) (q : ∀ H1, Ex H H1 → D.nx (((σ.set i (some x)).set j (some y)).set k (some z)) H1) :
    tAsg te (gTup K 3 (gCons (gName i) (gCons (gName j) (gCons (gName k) gNil)))) D σ H := h H (Ex.refl H) _ fun p H1 e hp => ⟨p, _, rfl, SqT.of hp, rfl, x, _, rfl, y, _, rfl, z, _, rfl, rfl, q H1 e⟩
end
/-- a promise that keeps the heap and tells of its value -/
theorem ex_call {sp : Sp} {vs : List V} {ta : TA} {σ : L2.St} {H : Hp} {P : V → Hp → Prop} (h : EvA ta σ H vs) (hs : ∀ H1, Ex H H1 → ∀ Q : VK, (∀ v H2, Ex H1 H2 → P v H2 → Q v H2) → ∀ E : XK, sp vs H1 Q E) : EX (tCall sp [] E0 ta) σ H P := fun H1 e Q q =>
  h H1 e _ fun H2 e2 => by
    rw [List.append_nil]
    exact hs H2 (e.trans e2) Q (fun v H3 e3 p => q v H3 (e2.trans e3) p) E0
end S
end

section
set_option Elab.async false
set_option linter.all false
set_option autoImplicit false
set_option maxRecDepth 100000
set_option maxHeartbeats 2000000
namespace S
open PySem PySem.Spec PyProof.Rows L2 Evl
section
variable {K : PySem.W.Frag} {σ : L2.St} {H H' : Hp} {ta tb te tl : TE} {t : TT} {v y : V} {D : Ends} {l : Addr} {xs zs : List V}
/-! ### lists changed -/
theorem s_appE (hl : H l = some (.lst xs)) (ha : Ev ta σ H (.ref l)) (h : Ev te σ H v) (hz : xs.length < 100000) (k : ∀ H1, Ex H H1 → D.nx σ (upd H1 l (.lst (xs ++ [v])))) :
    tDrop (tBM K "list" rAppend ta (tCons te tNil)) D σ H := s_app hl ha h hz k
theorem s_appT (hl : H l = some (.lst xs)) (ha : Ev ta σ H (.ref l)) (h : ET te σ H zs) (hz : xs.length < 100000) (k : ∀ p H1, Ex H H1 → H1 p = some (.tup zs) → D.nx σ (upd H1 l (.lst (xs ++ [.ref p])))) :
    tDrop (tBM K "list" rAppend ta (tCons te tNil)) D σ H := ha H (Ex.refl H) _ fun H1 e1 =>
  ⟨Or.inl ⟨rfl, xs, sq_of (e1 l _ hl)⟩, h H1 e1 _ fun p H2 e2 h2 => ⟨l, xs, .ref p, rfl, rfl, e2 l _ (e1 l _ hl), sz_lt hz, k p H2 (e1.trans e2) h2⟩⟩
theorem s_extT (hl : H l = some (.lst xs)) (ha : Ev ta σ H (.ref l)) (h : ET te σ H zs) (hz : xs.length + zs.length ≤ 100000) (k : ∀ H1, Ex H H1 → D.nx σ (upd H1 l (.lst (xs ++ zs)))) :
    tDrop (tBM K "list" (rExtendT K) ta (tCons te tNil)) D σ H := ha H (Ex.refl H) _ fun H1 e1 =>
  ⟨Or.inl ⟨rfl, xs, sq_of (e1 l _ hl)⟩, h H1 e1 _ fun p H2 e2 h2 => ⟨l, p, xs, zs, rfl, rfl, e2 l _ (e1 l _ hl), SqT.of h2, sz_of hz, k H2 (e1.trans e2)⟩⟩
theorem s_extL {b : Addr} (hl : H l = some (.lst xs)) (hb : H b = some (.lst zs)) (ha : Ev ta σ H (.ref l)) (h : Ev te σ H (.ref b)) (hz : xs.length + zs.length ≤ 100000) (k : ∀ H1, Ex H H1 → D.nx σ (upd H1 l (.lst (xs ++ zs)))) :
    tDrop (tBM K "list" rExtend ta (tCons te tNil)) D σ H := ha H (Ex.refl H) _ fun H1 e1 =>
  ⟨Or.inl ⟨rfl, xs, sq_of (e1 l _ hl)⟩, h H1 e1 _ fun H2 e2 => ⟨l, b, xs, zs, rfl, rfl, e2 l _ (e1 l _ hl), e2 _ _ (e1 _ _ hb), sz_of hz, k H2 (e1.trans e2)⟩⟩
theorem s_pop {i : Nat} (hl : H l = some (.lst (xs ++ [y]))) (ha : Ev ta σ H (.ref l)) (k : ∀ H1, Ex H H1 → D.nx (σ.set i (some y)) (upd H1 l (.lst xs))) :
    tAsg (tBM0 K "list" rPop ta) (gName i) D σ H := ha H (Ex.refl H) _ fun H1 e1 =>
  ⟨Or.inl ⟨rfl, _, sq_of (e1 l _ hl)⟩, l, _, y, rfl, rfl, e1 l _ hl, by simp, by
    rw [List.dropLast_concat]
    exact k H1 e1⟩
theorem et_lst (h : Ev te σ H (.ref l)) (hl : H l = some (.lst xs)) : EvT (tTrue K te) σ H (!xs.isEmpty) := fun H1 e Q q =>
  h H1 e _ fun H2 e2 => ⟨_, Or.inl ⟨xs, sq_of (e2 _ _ (e _ _ hl)), rfl⟩, q H2 e2⟩
theorem et_tup (h : ET te σ H xs) : EvT (tTrue K te) σ H (!xs.isEmpty) := fun H1 e Q q =>
  h H1 e _ fun p H2 e2 hp => ⟨_, Or.inr (Or.inl ⟨xs, st_of hp, rfl⟩), q H2 e2⟩
theorem ev_lenT (h : ET te σ H xs) : Ev (tCB (fun xs H Q => ∃ p ys, xs = [.ref p] ∧ (SqL K H p ys ∨ SqT K H p ys) ∧ Q (.int ys.length) H) (tCons te tNil)) σ H (nV xs.length) := fun H1 e Q q =>
  h H1 e _ fun p H2 e2 hp => ⟨p, xs, rfl, Or.inr (st_of hp), q H2 e2⟩
theorem ev_lenL (h : Ev te σ H (.ref l)) (hl : H l = some (.lst xs)) : Ev (tCB (fun xs H Q => ∃ p ys, xs = [.ref p] ∧ (SqL K H p ys ∨ SqT K H p ys) ∧ Q (.int ys.length) H) (tCons te tNil)) σ H (nV xs.length) := fun H1 e Q q =>
  h H1 e _ fun H2 e2 => ⟨l, xs, rfl, Or.inl (sq_of (e2 _ _ (e _ _ hl))), q H2 e2⟩
/-- list(t) -/
theorem el_listT (h : ET te σ H xs) : EvL (tCB (fun xs H Q => ∃ p ys, xs = [.ref p] ∧ (SqL K H p ys ∨ SqT K H p ys) ∧ ∀ l, H l = none → Q (.ref l) (upd H l (.lst ys))) (tCons te tNil)) σ H xs := fun H1 e Q q =>
  h H1 e _ fun p H2 e2 hp => ⟨p, xs, rfl, Or.inr (st_of hp), fun l hl => q l _ (fresh_back e2 hl) (e2.trans (Ex.new hl)) upd_same⟩
theorem el_listL (h : Ev te σ H (.ref l)) (hx : H l = some (.lst xs)) : EvL (tCB (fun xs H Q => ∃ p ys, xs = [.ref p] ∧ (SqL K H p ys ∨ SqT K H p ys) ∧ ∀ l, H l = none → Q (.ref l) (upd H l (.lst ys))) (tCons te tNil)) σ H xs := fun H1 e Q q =>
  h H1 e _ fun H2 e2 => ⟨l, xs, rfl, Or.inl (sq_of (e2 _ _ (e _ _ hx))), fun l hl => q l _ (fresh_back e2 hl) (e2.trans (Ex.new hl)) upd_same⟩
/-- tuple(l), l a new list | one that stands -/
theorem et_tupleN (h : EvL te σ H xs) : ET (tCB (fun xs H Q => ∃ p ys, xs = [.ref p] ∧ ((SqL K H p ys ∧ ∀ l, H l = none → Q (.ref l) (upd H l (.tup ys))) ∨ (SqT K H p ys ∧ Q (.ref p) H))) (tCons te tNil)) σ H xs := fun H1 e Q q =>
  h H1 e _ fun p H2 _ e2 hp => ⟨p, xs, rfl, Or.inl ⟨sq_of hp, fun l hl => q l _ (e2.trans (Ex.new hl)) upd_same⟩⟩
theorem et_tupleL (h : Ev te σ H (.ref l)) (hx : H l = some (.lst xs)) : ET (tCB (fun xs H Q => ∃ p ys, xs = [.ref p] ∧ ((SqL K H p ys ∧ ∀ l, H l = none → Q (.ref l) (upd H l (.tup ys))) ∨ (SqT K H p ys ∧ Q (.ref p) H))) (tCons te tNil)) σ H xs := fun H1 e Q q =>
  h H1 e _ fun H2 e2 => ⟨l, xs, rfl, Or.inl ⟨sq_of (e2 _ _ (e _ _ hx)), fun l hl => q l _ (e2.trans (Ex.new hl)) upd_same⟩⟩
/-! ### a list of lists -/
structure LsAt (H : Hp) (p : Addr) (ps : List Addr) (xss : List (List V)) : Prop where
  h : H p = some (.lst (ps.map V.ref))
  nd : ps.Nodup
  np : p ∉ ps
  len : ps.length = xss.length
  each : ∀ (i : Nat) (q : Addr) (xs : List V), ps[i]? = some q → xss[i]? = some xs → H q = some (.lst xs)
theorem LsAt.ex {p : Addr} {ps : List Addr} {xss : List (List V)} (h : LsAt H p ps xss) (e : Ex H H') : LsAt H' p ps xss := ⟨e _ _ h.h, h.nd, h.np, h.len, fun i q xs a b => e _ _ (h.each i q xs a b)⟩
theorem nodup_at {α : Type} {l : List α} (h : l.Nodup) {i j : Nat} {a : α} (hi : l[i]? = some a) (hj : l[j]? = some a) : i = j := by
  obtain ⟨h1, e1⟩ := List.getElem?_eq_some_iff.mp hi
  obtain ⟨h2, e2⟩ := List.getElem?_eq_some_iff.mp hj
  exact (List.getElem_inj h).mp (e1.trans e2.symm)
/-- the i-th is changed -/
theorem LsAt.upd {p q : Addr} {ps : List Addr} {xss : List (List V)} (h : LsAt H p ps xss) {i : Nat} {ys : List V} (hq : ps[i]? = some q) : LsAt (upd H q (.lst ys)) p ps (xss.set i ys) := by
  refine ⟨?_, h.nd, h.np, by rw [List.length_set]; exact h.len, fun j q' xs a b => ?_⟩
  · rw [upd_ne (fun z => h.np (by rw [z]; exact List.mem_of_getElem? hq))]
    exact h.h
  · have hil : i < xss.length := by rw [← h.len]; exact get_lt hq
    by_cases e : j = i
    · subst e
      rw [hq] at a
      have ea := Option.some.inj a
      subst ea
      rw [List.getElem?_set_self hil] at b
      rw [upd_same, Option.some.inj b]
    · have hne : q' ≠ q := fun z => by
        subst z
        exact e (nodup_at h.nd a hq)
      rw [List.getElem?_set_ne (fun z => e z.symm)] at b
      rw [upd_ne hne]
      exact h.each j q' xs a b
/-- another object is changed -/
theorem LsAt.other {p q : Addr} {ps : List Addr} {xss : List (List V)} {o : HO} (h : LsAt H p ps xss) (h1 : q ≠ p) (h2 : q ∉ ps) : LsAt (L2.upd H q o) p ps xss := by
  refine ⟨?_, h.nd, h.np, h.len, fun i q' xs a b => ?_⟩
  · rw [upd_ne (fun z => h1 z.symm)]
    exact h.h
  · rw [upd_ne (fun z => h2 (by rw [← z]; exact List.mem_of_getElem? a))]
    exact h.each i q' xs a b
theorem LsAt.at {p : Addr} {ps : List Addr} {xss : List (List V)} (h : LsAt H p ps xss) {i : Nat} {xs : List V} (hi : xss[i]? = some xs) : ∃ q, ps[i]? = some q ∧ H q = some (.lst xs) := by
  have hl : i < ps.length := by rw [h.len]; exact get_lt hi
  exact ⟨ps[i], List.getElem?_eq_getElem hl, h.each i _ xs (List.getElem?_eq_getElem hl) hi⟩
theorem ev_ls {p q : Addr} {ps : List Addr} {xss : List (List V)} {i : Nat} (ha : Ev ta σ H (.ref p)) (hb : Ev tb σ H (nV i)) (h : LsAt H p ps xss) (hq : ps[i]? = some q) : Ev (tOp (rIxL K) ta tb) σ H (.ref q) :=
  ev_ixL ha hb h.h (get_map hq)
/-- [[..] for state in range(n)] -/
theorem lcR_lists {j n : Nat} {vs : List Nat} {ta : TA} (h : EvA ta σ H [nV n]) (hz : n ≤ 40000)
    (he : ∀ a, a < n → ∀ H1, Ex H H1 → EvL te ((wipe σ vs).set j (some (nV a))) H1 xs) (Q : VK)
    (q : ∀ p H' ps, Ex H H' → H p = none → ps.length = n → LsAt H' p ps (List.replicate n xs) → (∀ r ∈ ps, H r = none) → Q (.ref p) H') (hw : ∀ x, wipe ((wipe σ vs).set j (some x)) vs = wipe σ vs := by intro _; rfl) : tLc (iRng1 ta) (gName j) tYes te vs σ H Q := h H (Ex.refl H) _ fun H1 e1 =>
  ⟨(n : Int), rfl, by omega, by omega, fun Dl hD => lc_range (lo := 0) (n := (n : Int).toNat)
    (fun i H' => ∃ ps : List Addr, ps.length = i ∧ ps.Nodup ∧ Dl ∉ ps ∧ (∀ r ∈ ps, H1 r = none ∧ H' r = some (.lst xs)) ∧ Ex H1 H' ∧ H' Dl = some (.lst (ps.map V.ref)))
    ⟨[], rfl, List.nodup_nil, List.not_mem_nil, fun r hr => absurd hr List.not_mem_nil, Ex.new hD, upd_same⟩
    (fun i H' hi p => by
      rw [Int.toNat_natCast] at hi
      have e0 : V.int ((0 : Int) + (i : Int)) = nV i := by show V.int _ = V.int _; rw [Int.zero_add]
      rw [e0]
      obtain ⟨ps, p1, p2, p3, p4, p5, p6⟩ := p
      refine ⟨hw _, ?_⟩
      show te _ H' _
      refine he i hi H' (e1.trans p5) H' (Ex.refl H') _ fun r H4 hr e4 h4 => ⟨_, e4 _ _ p6, ?_, ps ++ [r], ?_, ?_, ?_, ?_, ?_, ?_⟩
      · rw [List.length_map, p1]
        exact sz_lt (by omega)
      · rw [List.length_append, p1] <;> rfl
      · have hrn : r ∉ ps := fun z => by
          have := (p4 r z).2
          rw [hr] at this
          cases this
        exact List.nodup_append.mpr ⟨p2, List.nodup_cons.mpr ⟨List.not_mem_nil, List.nodup_nil⟩, fun a ha b hb z => by
          rw [List.mem_singleton] at hb
          rw [z, hb] at ha
          exact hrn ha⟩
      · intro z
        rcases List.mem_append.mp z with z | z
        · exact p3 z
        · rw [List.mem_singleton] at z
          rw [z, hr] at p6
          cases p6
      · intro a ha
        rcases List.mem_append.mp ha with ha | ha
        · refine ⟨(p4 a ha).1, ?_⟩
          rw [upd_ne (fun z => p3 (by rw [← z]; exact ha))]
          exact e4 _ _ (p4 a ha).2
        · rw [List.mem_singleton] at ha
          subst ha
          refine ⟨fresh_back p5 hr, ?_⟩
          rw [upd_ne (fun z => by rw [z, p6] at hr; cases hr)]
          exact h4
      · exact Ex.mut (p5.trans e4) hD
      · rw [upd_same, List.map_append] <;> rfl)
    (fun H' p => by
      rw [Int.toNat_natCast] at p
      obtain ⟨ps, p1, p2, p3, p4, p5, p6⟩ := p
      refine q Dl H' ps (e1.trans p5) (fresh_back e1 hD) p1 ⟨p6, p2, p3, by rw [List.length_replicate]; exact p1, fun i r ys a b => ?_⟩ fun r hr => fresh_back e1 (p4 r hr).1
      rw [List.getElem?_replicate] at b
      split at b
      · rw [← Option.some.inj b]
        exact (p4 r (List.mem_of_getElem? a)).2
      · cases b)⟩
theorem s_lists {i j n : Nat} {vs : List Nat} {ta : TA} (h : EvA ta σ H [nV n]) (hz : n ≤ 40000)
    (he : ∀ a, a < n → ∀ H1, Ex H H1 → EvL te ((wipe σ vs).set j (some (nV a))) H1 xs)
    (q : ∀ p H' ps, Ex H H' → H p = none → ps.length = n → LsAt H' p ps (List.replicate n xs) → (∀ r ∈ ps, H r = none) → D.nx (σ.set i (some (.ref p))) H') (hw : ∀ x, wipe ((wipe σ vs).set j (some x)) vs = wipe σ vs := by intro _; rfl) :
    tAsg (tLc (iRng1 ta) (gName j) tYes te vs) (gName i) D σ H := lcR_lists h hz he _ q hw
end
theorem snoc_cases {α : Type} (l : List α) : l = [] ∨ ∃ us u, l = us ++ [u] := by
  rcases List.eq_nil_or_concat l with h | ⟨us, u, h⟩
  · exact .inl h
  · exact .inr ⟨us, u, by rw [h, List.concat_eq_append]⟩
end S
end

section
set_option Elab.async false
set_option linter.all false
set_option autoImplicit false
set_option maxRecDepth 100000
set_option maxHeartbeats 2000000
namespace S
open PySem PySem.Spec PyProof.Rows L2 Evl
/-! ### dicts whose keys are numbers of states -/
structure DkAt (H : Hp) (d : Addr) (g : Nat → Option V) (n : Nat) : Prop where
  ex : ∃ kvs : List (Key × V), H d = some (.dK kvs) ∧ kvs.length ≤ n ∧ ∀ s : Nat, valV kvs (Sum.inl (s : Int)) = g s
def dPut (g : Nat → Option V) (s : Nat) (v : V) : Nat → Option V := fun t => if t = s then some v else g t
theorem dPut_same {g : Nat → Option V} {s : Nat} {v : V} : dPut g s v s = some v := if_pos rfl
theorem dPut_ne {g : Nat → Option V} {s t : Nat} {v : V} (h : t ≠ s) : dPut g s v t = g t := if_neg h
theorem DkAt.upd_other {H : Hp} {d q : Addr} {g : Nat → Option V} {n : Nat} {o : HO} (h : DkAt H d g n) (hne : q ≠ d) : DkAt (upd H q o) d g n := by
  obtain ⟨kvs, h1, h2, h3⟩ := h.ex
  exact ⟨kvs, by rw [upd_ne (fun z => hne z.symm)]; exact h1, h2, h3⟩
section
variable {K : PySem.W.Frag} {σ : L2.St} {H H' : Hp} {ta tb te tl td ty tv : TE} {t : TT} {v y : V} {D : Ends} {d : Addr} {g : Nat → Option V} {n s : Nat}
theorem DkAt.exx (h : DkAt H d g n) (e : Ex H H') : DkAt H' d g n := by
  obtain ⟨kvs, h1, h2⟩ := h.ex
  exact ⟨kvs, e _ _ h1, h2⟩
theorem DkAt.get (h : DkAt H d g n) : DGet H d (nV s) (g s) := by
  obtain ⟨kvs, h1, h2, h3⟩ := h.ex
  rw [← h3]
  exact DGet.k (k := Sum.inl (s : Int)) h1
theorem ev_din (hy : Ev ty σ H (nV s)) (hd : Ev td σ H (.ref d)) (h : DkAt H d g n) : Ev (tDIn ty td) σ H (.bl (g s).isSome) := fun H1 e Q q =>
  hy H1 e _ fun H2 e2 => hd H2 (e.trans e2) _ fun H3 e3 => ⟨d, g s, rfl, (h.exx ((e.trans e2).trans e3)).get, q H3 (e2.trans e3)⟩
theorem ev_dnotin (hy : Ev ty σ H (nV s)) (hd : Ev td σ H (.ref d)) (h : DkAt H d g n) : Ev (tDNotIn ty td) σ H (.bl (!(g s).isSome)) := fun H1 e Q q =>
  hy H1 e _ fun H2 e2 => hd H2 (e.trans e2) _ fun H3 e3 => ⟨d, g s, rfl, (h.exx ((e.trans e2).trans e3)).get, q H3 (e2.trans e3)⟩
theorem ev_dget (hd : Ev td σ H (.ref d)) (hy : Ev ty σ H (nV s)) (h : DkAt H d g n) (hv : g s = some v) : Ev (tDGet td ty) σ H v := fun H1 e Q q =>
  hd H1 e _ fun H2 e2 => hy H2 (e.trans e2) _ fun H3 e3 => ⟨d, v, rfl, by rw [← hv]; exact (h.exx ((e.trans e2).trans e3)).get, q H3 (e2.trans e3)⟩
theorem ev_dget1 (hd : Ev td σ H (.ref d)) (hy : Ev ty σ H (nV s)) (h : DkAt H d g n) : Ev (tDGet1 td ty) σ H ((g s).getD .non) := fun H1 e Q q =>
  hd H1 e _ fun H2 e2 => ⟨d, rfl, by
    obtain ⟨kvs, h1, _⟩ := (h.exx (e.trans e2)).ex
    exact .inl ⟨kvs, .inl h1⟩, hy H2 (e.trans e2) _ fun H3 e3 => ⟨g s, (h.exx ((e.trans e2).trans e3)).get, q H3 (e2.trans e3)⟩⟩
/-- {} -/
theorem s_dnew {i : Nat} (k : ∀ p, H p = none → DkAt (upd H p (.dK [])) p (fun _ => none) 0 → D.nx (σ.set i (some (.ref p))) (upd H p (.dK []))) : tAsg tDNewK (gName i) D σ H := fun p hp => k p hp ⟨[], upd_same, Nat.le_refl _, fun _ => rfl⟩
/-- d[s] = v -/
theorem s_dput (h : DkAt H d g n) (hv : Ev tv σ H v) (hd : Ev td σ H (.ref d)) (hy : Ev ty σ H (nV s)) (hn : n < 100000) (k : ∀ H1 kvs, Ex H H1 → DkAt (upd H1 d (.dK kvs)) d (dPut g s v) (n + 1) → D.nx σ (upd H1 d (.dK kvs))) : sDPut td ty tv D σ H :=
  hv H (Ex.refl H) _ fun H1 e1 => hd H1 e1 _ fun H2 e2 => hy H2 (e1.trans e2) _ fun H3 e3 => by
    obtain ⟨kvs, h1, h2, h3⟩ := (h.exx ((e1.trans e2).trans e3)).ex
    refine ⟨d, _, rfl, DPut.k (k := Sum.inl (s : Int)) (v := v) h1 (sz_lt (by omega)), k H3 _ ((e1.trans e2).trans e3) ⟨_, upd_same, ?_, fun t => ?_⟩⟩
    · have := length_putK kvs (Sum.inl (s : Int)) v
      omega
    · rw [valV_put, h3]
      unfold dPut
      by_cases e : t = s
      · subst e
        rw [if_pos rfl, if_pos rfl]
      · rw [if_neg e, if_neg (fun z => e (by have := Sum.inl.inj z; omega))]
/-- the value of an evaluation with a property -/
theorem s_dputX {P : V → Hp → Prop} (h : DkAt H d g n) (hv : EX tv σ H P) (hd : Ev td σ H (.ref d)) (hy : Ev ty σ H (nV s)) (hn : n < 100000) (k : ∀ v H1 kvs, Ex H H1 → P v H1 → DkAt (upd H1 d (.dK kvs)) d (dPut g s v) (n + 1) → D.nx σ (upd H1 d (.dK kvs)))
    (mono : ∀ v H1 H2, Ex H1 H2 → P v H1 → P v H2) : sDPut td ty tv D σ H :=
  hv H (Ex.refl H) _ fun v H1 e1 p => hd H1 e1 _ fun H2 e2 => hy H2 (e1.trans e2) _ fun H3 e3 => by
    obtain ⟨kvs, h1, h2, h3⟩ := (h.exx ((e1.trans e2).trans e3)).ex
    refine ⟨d, _, rfl, DPut.k (k := Sum.inl (s : Int)) (v := v) h1 (sz_lt (by omega)), k v H3 _ ((e1.trans e2).trans e3) (mono _ _ _ (e2.trans e3) p) ⟨_, upd_same, ?_, fun t => ?_⟩⟩
    · have := length_putK kvs (Sum.inl (s : Int)) v
      omega
    · rw [valV_put, h3]
      unfold dPut
      by_cases e : t = s
      · subst e
        rw [if_pos rfl, if_pos rfl]
      · rw [if_neg e, if_neg (fun z => e (by have := Sum.inl.inj z; omega))]
/-- {s: v} -/
theorem s_disp {i : Nat} {tk : TE} (hk : Ev tk σ H (nV s)) (hv : Ev tv σ H v) (k : ∀ p H1 kvs, H p = none → Ex H (upd H1 p (.dK kvs)) → DkAt (upd H1 p (.dK kvs)) p (dPut (fun _ => none) s v) 1 → D.nx (σ.set i (some (.ref p))) (upd H1 p (.dK kvs))) :
    tAsg (tDisp [(tk, tv)]) (gName i) D σ H := fun p hp =>
  hk (upd H p (.dK [])) (Ex.new hp) _ fun H1 e1 => hv H1 ((Ex.new hp).trans e1) _ fun H2 e2 => ⟨e2 _ _ (e1 _ _ upd_same), [(Sum.inl (s : Int), v)], rfl, by show 1 ≤ 15; decide, by
    refine k p H2 _ hp (Ex.mut (((Ex.new hp).trans e1).trans e2) hp) ⟨_, upd_same, ?_, fun t => ?_⟩
    · have := length_putK ([] : List (Key × V)) (Sum.inl (s : Int)) v
      exact this
    · show valV (putK [] (Sum.inl (s : Int)) v) (Sum.inl (t : Int)) = _
      rw [valV_put]
      unfold dPut
      by_cases e : t = s
      · subst e
        rw [if_pos rfl, if_pos rfl]
      · rw [if_neg e, if_neg (fun z => e (by have := Sum.inl.inj z; omega))]
        rfl⟩
/-! ### [e for a in l for b in l2(a)] -/
theorem el_lc2 {α β : Type} {j j1 : Nat} {vs vs1 : List Nat} {tl1 : TE} {a0 : Addr} (l : List α) (c : α → V) (l2 : α → List β) (c2 : β → V) (gg : α → β → V) (h : Ev tl σ H (.ref a0)) (hx : H a0 = some (.lst (l.map c))) (hz : (l.flatMap fun a => (l2 a).map (gg a)).length ≤ 40000)
    (h1 : ∀ a, a ∈ l → ∀ H1, Ex H H1 → ET tl1 ((wipe σ vs).set j (some (c a))) H1 ((l2 a).map c2))
    (he : ∀ a, a ∈ l → ∀ b, b ∈ l2 a → ∀ H1, Ex H H1 → Ev te ((wipe ((wipe σ vs).set j (some (c a))) vs1).set j1 (some (c2 b))) H1 (gg a b))
    (hw : ∀ x, wipe ((wipe σ vs).set j (some x)) vs = wipe σ vs := by intro _; rfl) (hw1 : ∀ x y, wipe ((wipe ((wipe σ vs).set j (some x)) vs1).set j1 (some y)) vs1 = wipe ((wipe σ vs).set j (some x)) vs1 := by intro _ _; rfl) :
    EvL (tLc2 (iList K tl) (gName j) tYes (iTup K tl1) (gName j1) tYes te vs vs1) σ H (l.flatMap fun a => (l2 a).map (gg a)) := fun H0 e Q q => h H0 e _ fun H1 e1 => ⟨a0, rfl, ⟨_, SqL.of (e1 _ _ (e _ _ hx))⟩, fun Dl hD => by
  have e01 := e.trans e1
  refine ⟨fun i m H' => m = l.length - i ∧ i ≤ l.length ∧ (Ex H1 H' ∧ H' Dl = some (.lst ((l.take i).flatMap fun a => (l2 a).map (gg a)))), ⟨_, rfl, Nat.zero_le _, Ex.new hD, upd_same⟩, ?_⟩
  rintro i m H' ⟨rfl, hi, p1, p2⟩
  have hl' : H' a0 = some (.lst (l.map c)) := p1 _ _ (e01 _ _ hx)
  by_cases hlt : i < l.length
  · refine .inr ⟨⟨l.map c, c l[i], SqL.of hl', get_map (List.getElem?_eq_getElem hlt)⟩, fun H' => Ex H1 H' ∧ H' Dl = some (.lst ((l.take (i + 1)).flatMap fun a => (l2 a).map (gg a))), fun H2 z => ⟨l.length - (i + 1), by omega, rfl, hlt, z⟩, fun x H2 y => ?_⟩
    obtain ⟨eH, y⟩ := y
    subst eH
    have ex : x = c l[i] := by
      have := y _ (SqL.of hl')
      rw [get_map (List.getElem?_eq_getElem hlt)] at this
      exact (Option.some.inj this).symm
    subst ex
    have hm : l[i] ∈ l := List.getElem_mem hlt
    refine ⟨hw _, ?_⟩
    have key := h1 l[i] hm H2 (e01.trans p1) H2 (Ex.refl H2)
    refine key _ fun p H3 e3 hp => ⟨p, rfl, ⟨_, SqT.of hp⟩, ?_⟩
    refine ⟨fun k r H' => r = (l2 l[i]).length - k ∧ k ≤ (l2 l[i]).length ∧ (Ex H3 H' ∨ True) ∧ Ex H1 H' ∧ H' p = some (.tup ((l2 l[i]).map c2)) ∧ H' Dl = some (.lst (((l.take i).flatMap fun a => (l2 a).map (gg a)) ++ ((l2 l[i]).take k).map (gg l[i]))),
      ⟨_, rfl, Nat.zero_le _, .inr trivial, p1.trans e3, hp, by rw [List.take_zero, List.map_nil, List.append_nil]; exact e3 _ _ p2⟩, ?_⟩
    rintro k r H4 ⟨rfl, hk, _, q1, q2, q3⟩
    by_cases hlt2 : k < (l2 l[i]).length
    · refine .inr ⟨⟨_, c2 (l2 l[i])[k], SqT.of q2, get_map (List.getElem?_eq_getElem hlt2)⟩, fun H' => Ex H1 H' ∧ H' p = some (.tup ((l2 l[i]).map c2)) ∧ H' Dl = some (.lst (((l.take i).flatMap fun a => (l2 a).map (gg a)) ++ ((l2 l[i]).take (k + 1)).map (gg l[i]))), fun H5 z => ⟨(l2 l[i]).length - (k + 1), by omega, rfl, hlt2, .inr trivial, z⟩, fun x H5 y => ?_⟩
      obtain ⟨eH, y⟩ := y
      subst eH
      have ex : x = c2 (l2 l[i])[k] := by
        have := y _ (SqT.of q2)
        rw [get_map (List.getElem?_eq_getElem hlt2)] at this
        exact (Option.some.inj this).symm
      subst ex
      refine ⟨hw1 _ _, ?_⟩
      refine he l[i] hm _ (List.getElem_mem hlt2) H5 (e01.trans q1) H5 (Ex.refl H5) _ fun H6 e6 => ⟨_, e6 _ _ q3, ?_, Ex.mut (q1.trans e6) hD, ?_, ?_⟩
      · rw [List.length_append, List.length_map, List.length_take]
        have g1 : (l.flatMap fun a => (l2 a).map (gg a)) = ((l.take i).flatMap fun a => (l2 a).map (gg a)) ++ ((l.drop i).flatMap fun a => (l2 a).map (gg a)) := by rw [← List.flatMap_append, List.take_append_drop]
        have g2 : (l.drop i) = l[i] :: l.drop (i + 1) := List.drop_eq_getElem_cons hlt
        rw [g1, g2, List.flatMap_cons, List.length_append, List.length_append, List.length_map] at hz
        exact sz_lt (by omega)
      · rw [upd_ne (fun z => by rw [z, q3] at q2; cases q2)]
        exact e6 _ _ q2
      · rw [upd_same, List.take_add_one, List.getElem?_eq_getElem hlt2, List.map_append, List.append_assoc] <;> rfl
    · have ek : k = (l2 l[i]).length := by omega
      subst ek
      refine .inl ⟨⟨_, SqT.of q2, by rw [List.length_map]; exact Nat.le_refl _⟩, q1, ?_⟩
      rw [q3, List.take_length, List.take_add_one, List.getElem?_eq_getElem hlt, List.flatMap_append]
      show _ = some (HO.lst (_ ++ List.flatMap _ [l[i]]))
      rw [List.flatMap_cons, List.flatMap_nil, List.append_nil]
  · have ei : i = l.length := by omega
    subst ei
    refine .inl ⟨⟨_, SqL.of hl', by rw [List.length_map]; exact Nat.le_refl _⟩, ?_⟩
    refine q Dl H' (fresh_back e1 hD) (e1.trans p1) ?_
    rw [List.take_length] at p2
    exact p2⟩
end
end S
end

section
set_option Elab.async false
set_option linter.all false
set_option autoImplicit false
set_option maxRecDepth 100000
set_option maxHeartbeats 2000000
namespace S
open PySem PySem.Spec PyProof.Rows L2 Evl
/-! ### steps -/
abbrev Stp := Nat × Nat × Nat × Nat
def sV (t : Stp) : List V := [nV t.1, nV t.2.1, nV t.2.2.1, nV t.2.2.2]
structure StepsAt (H : Hp) (p : Addr) (l : List (Addr × Stp)) : Prop where
  h : H p = some (.lst (l.map fun q => V.ref q.1))
  each : ∀ q, q ∈ l → H q.1 = some (.tup (sV q.2))
theorem StepsAt.ex {H H' : Hp} {p : Addr} {l : List (Addr × Stp)} (h : StepsAt H p l) (e : Ex H H') : StepsAt H' p l := ⟨e _ _ h.h, fun q hq => e _ _ (h.each q hq)⟩
def HasS (l : List (Addr × Stp)) (t : Stp) : Prop := ∃ a, (a, t) ∈ l
theorem HasS.snoc {l : List (Addr × Stp)} {a : Addr} {t u : Stp} : HasS (l ++ [(a, u)]) t ↔ HasS l t ∨ t = u := by
  constructor
  · rintro ⟨b, hb⟩
    rcases List.mem_append.mp hb with hb | hb
    · exact .inl ⟨b, hb⟩
    · rw [List.mem_singleton] at hb
      exact .inr (congrArg Prod.snd hb)
  · rintro (⟨b, hb⟩ | e)
    · exact ⟨b, List.mem_append_left _ hb⟩
    · subst e
      exact ⟨a, List.mem_append_right _ (List.mem_singleton.mpr rfl)⟩
theorem perm_of_map {α β : Type} {c : α → β} {ys zs : List β} (h : ys.Perm zs) : ∀ l : List α, zs = l.map c → ∃ l' : List α, l'.Perm l ∧ ys = l'.map c := by
  induction h with
  | nil =>
    intro l e
    cases l with
    | nil => exact ⟨[], .nil, rfl⟩
    | cons a r => cases e
  | cons x _ ih =>
    intro l e
    cases l with
    | nil => cases e
    | cons a r =>
      rw [List.map_cons] at e
      injection e with e1 e2
      obtain ⟨l', h1, h2⟩ := ih r e2
      exact ⟨a :: l', .cons a h1, by rw [List.map_cons, h2, e1]⟩
  | swap x y zs =>
    intro l e
    cases l with
    | nil => cases e
    | cons a r =>
      cases r with
      | nil => cases e
      | cons b r =>
        rw [List.map_cons, List.map_cons] at e
        injection e with e1 e2
        injection e2 with e2 e3
        exact ⟨b :: a :: r, .swap a b r, by rw [List.map_cons, List.map_cons, e1, e2, e3]⟩
  | trans _ _ ih1 ih2 =>
    intro l e
    obtain ⟨l2, h1, h2⟩ := ih2 l e
    obtain ⟨l1, h3, h4⟩ := ih1 l2 h2
    exact ⟨l1, h3.trans h1, h4⟩
theorem HasS.perm {l l' : List (Addr × Stp)} (h : l'.Perm l) (t : Stp) : HasS l' t ↔ HasS l t := ⟨fun ⟨a, ha⟩ => ⟨a, h.mem_iff.mp ha⟩, fun ⟨a, ha⟩ => ⟨a, h.mem_iff.mpr ha⟩⟩
section
variable {K : PySem.W.Frag} {σ : L2.St} {H H' : Hp} {te : TE}
/-- sorted(l), l of steps: a rearrangement of it -/
theorem ex_sorted {p : Addr} {l : List (Addr × Stp)} (h : Ev te σ H (.ref p)) (hl : StepsAt H p l) (h64 : l.length < 64) (hb : ∀ q, q ∈ l → q.2.1 < 100 ∧ q.2.2.1 < 100 ∧ q.2.2.2.1 < 100 ∧ q.2.2.2.2 < 100) :
    EX (tCB (rSortU K 4 100) (tCons te tNil)) σ H (fun v H' => ∃ (p' : Addr) (l' : List (Addr × Stp)), v = .ref p' ∧ StepsAt H' p' l' ∧ l'.Perm l) := fun H1 e Q q =>
  h H1 e _ fun H2 e2 => by
    have hl2 := hl.ex (e.trans e2)
    refine ⟨p, _, rfl, SqL.of hl2.h, by rw [List.length_map]; exact h64, fun x hx => ?_, fun ys r hp _ hr => ?_⟩
    · obtain ⟨y, hy, rfl⟩ := List.mem_map.mp hx
      obtain ⟨b1, b2, b3, b4⟩ := hb y hy
      refine ⟨[(y.2.1 : Int), (y.2.2.1 : Int), (y.2.2.2.1 : Int), (y.2.2.2.2 : Int)], ⟨y.1, rfl, SqT.of (hl2.each y hy)⟩, rfl, ?_⟩
      intro k hk
      simp only [List.mem_cons, List.not_mem_nil, or_false] at hk
      rcases hk with rfl | rfl | rfl | rfl <;> constructor <;> omega
    · obtain ⟨l', h1, rfl⟩ := perm_of_map hp l rfl
      have en := Ex.new (o := HO.lst (l'.map fun q => V.ref q.1)) hr
      exact q _ _ (e2.trans en) ⟨r, l', rfl, ⟨upd_same, fun z hz => en _ _ (hl2.each z (h1.mem_iff.mp hz))⟩, h1⟩
/-! ### in, not in -/
theorem inV_nat (s : Nat) (ls : List Nat) : inV (nV s) (ls.map nV) = decide (s ∈ ls) := by
  induction ls with
  | nil => simp [inV]
  | cons a r ih =>
    have h : inV (nV s) ((a :: r).map nV) = (eqV (nV a) (nV s) || inV (nV s) (r.map nV)) := rfl
    rw [h, ih]
    have h2 : eqV (nV a) (nV s) = decide (a = s) := by
      show ((a : Int) == (s : Int)) = decide (a = s)
      by_cases e : a = s
      · subst e; simp
      · have : ¬ (a : Int) = (s : Int) := by omega
        rw [decide_eq_false e]
        exact beq_eq_false_iff_ne.mpr this
    rw [h2]
    by_cases e : a = s
    · subst e; simp
    · simp [e, show ¬ s = a from fun z => e z.symm]
theorem flat_nat (ls : List Nat) : (ls.map nV).all flatV = true := by
  rw [List.all_eq_true]
  intro x hx
  obtain ⟨a, _, rfl⟩ := List.mem_map.mp hx
  rfl
variable {ta tb : TE} {p : Addr} {s : Nat} {ls : List Nat}
theorem ev_inL (ha : Ev ta σ H (nV s)) (hb : Ev tb σ H (.ref p)) (h : H p = some (.lst (ls.map nV))) : Ev (tOp (rIn K false) ta tb) σ H (.bl (decide (s ∈ ls))) := ev_is (ev_op ha hb (rv_isL (SqL.of h) rfl (flat_nat ls))) (by rw [inV_nat])
theorem ev_niL (ha : Ev ta σ H (nV s)) (hb : Ev tb σ H (.ref p)) (h : H p = some (.lst (ls.map nV))) : Ev (tOp (rIn K true) ta tb) σ H (.bl (!decide (s ∈ ls))) := ev_is (ev_op ha hb (rv_niL (SqL.of h) rfl (flat_nat ls))) (by rw [inV_nat])
theorem ev_inT (ha : Ev ta σ H (nV s)) (hb : Ev tb σ H (.ref p)) (h : H p = some (.tup (ls.map nV))) : Ev (tOp (rIn K false) ta tb) σ H (.bl (decide (s ∈ ls))) := ev_is (ev_op ha hb (rv_isT (SqT.of h) rfl (flat_nat ls))) (by rw [inV_nat])
theorem ev_niT (ha : Ev ta σ H (nV s)) (hb : Ev tb σ H (.ref p)) (h : H p = some (.tup (ls.map nV))) : Ev (tOp (rIn K true) ta tb) σ H (.bl (!decide (s ∈ ls))) := ev_is (ev_op ha hb (rv_niT (SqT.of h) rfl (flat_nat ls))) (by rw [inV_nat])
end
end S
end

section
set_option Elab.async false
set_option linter.all false
set_option autoImplicit false
set_option maxRecDepth 100000
set_option maxHeartbeats 2000000
namespace S
open PySem PySem.Spec PyProof.Rows L2 Evl
/-! ### == of data -/
def dI (ns : List Int) : List PyData := ns.map PyData.int
theorem dp_ints {K : PySem.W.Frag} {H : Hp} : ∀ ns : List Int, DpAll K H (ns.map V.int) (dI ns)
  | [] => .nil
  | n :: r => .cons (.int n) (dp_ints r)
theorem eqv_ints : ∀ ns ms : List Int, PyData.eqvAll (dI ns) (dI ms) = decide (ns = ms)
  | [], [] => rfl
  | [], _ :: _ => rfl
  | _ :: _, [] => rfl
  | n :: ns, m :: ms => by
    have h : PyData.eqvAll (dI (n :: ns)) (dI (m :: ms)) = (PyData.eqv (.int n) (.int m) && PyData.eqvAll (dI ns) (dI ms)) := by
      show PyData.eqvAll (PyData.int n :: dI ns) (PyData.int m :: dI ms) = _
      rw [PyData.eqvAll]
    have h2 : PyData.eqv (.int n) (.int m) = decide (n = m) := by
      rw [PyData.eqv, Bool.eq_iff_iff]
      simp
    rw [h, eqv_ints ns ms, h2, Bool.eq_iff_iff]
    simp
theorem lay_ints : ∀ ns : List Int, PyData.canLayAll0 (dI ns) = true
  | [] => rfl
  | n :: r => by
    show PyData.canLayAll0 (PyData.int n :: dI r) = true
    rw [PyData.canLayAll0, PyData.canLay0, lay_ints r] <;> rfl
theorem dep_ints : ∀ ns : List Int, PyData.depthAll (dI ns) = 0
  | [] => rfl
  | n :: r => by
    show PyData.depthAll (PyData.int n :: dI r) = 0
    rw [PyData.depthAll, PyData.depth, dep_ints r] <;> rfl
theorem shp_list (ns : List Int) : SeqAt.shaped (.list (dI ns)) = true := by
  unfold SeqAt.shaped
  rw [PyData.canLay0, lay_ints, PyData.depth, dep_ints] <;> rfl
theorem shp_tup (ns : List Int) : SeqAt.shaped (.tuple (dI ns)) = true := by
  unfold SeqAt.shaped
  rw [PyData.canLay0, lay_ints, PyData.depth, dep_ints] <;> rfl
theorem nV_ints (ls : List Nat) : ls.map nV = (ls.map fun n : Nat => (n : Int)).map V.int := by
  rw [List.map_map] <;> rfl
theorem cast_inj {ls ms : List Nat} : (ls.map fun n : Nat => (n : Int)) = (ms.map fun n : Nat => (n : Int)) ↔ ls = ms := by
  constructor
  · intro h
    induction ls generalizing ms with
    | nil =>
      cases ms with
      | nil => rfl
      | cons a r => cases h
    | cons a r ih =>
      cases ms with
      | nil => cases h
      | cons b q =>
        rw [List.map_cons, List.map_cons] at h
        injection h with h1 h2
        rw [ih h2, show a = b by omega]
  · intro h
    rw [h]
section
variable {K : PySem.W.Frag} {σ : L2.St} {H H' : Hp} {ta tb te : TE}
/-- l == [] -/
theorem ev_eqNil {p : Addr} {ls : List Nat} (ha : Ev ta σ H (.ref p)) (h : H p = some (.lst (ls.map nV))) (hb : EvL tb σ H []) : Ev (tOp (rEqD K) ta tb) σ H (.bl ls.isEmpty) := fun H1 e Q q =>
  ha H1 e _ fun H2 e2 => hb H2 (e.trans e2) _ fun r H3 hr e3 h3 => ⟨.list (dI (ls.map fun n : Nat => (n : Int))), .list (dI []), by
    have z := e3 _ _ (e2 _ _ (e _ _ h))
    rw [nV_ints] at z
    exact .lst (SqL.of z) (dp_ints _), .lst (SqL.of h3) .nil, shp_list _, shp_list [], by
    rw [PyData.eqv, eqv_ints]
    have : decide ((ls.map fun n : Nat => (n : Int)) = []) = ls.isEmpty := by
      cases ls <;> simp
    rw [this]
    exact q H3 (e2.trans e3)⟩
theorem et_rev {xs : List V} (h : ET te σ H xs) : ET (tRevT K te) σ H xs.reverse := fun H1 e Q q => h H1 e _ fun p H2 e2 hp => ⟨p, xs, rfl, SqT.of hp, fun r hr => q r _ (e2.trans (Ex.new hr)) upd_same⟩
/-! ### slices -/
def EvP (t : TO) (σ : L2.St) (H : Hp) (o : Option Int) : Prop := ∀ H1, Ex H H1 → ∀ Q : Option Int → Hp → Prop, (∀ H2, Ex H1 H2 → Q o H2) → t σ H1 Q
theorem ep_none : EvP tNoPart σ H none := fun H1 _ Q q => q H1 (Ex.refl H1)
theorem ep_some {n : Nat} (h : Ev te σ H (nV n)) : EvP (tPart te) σ H (some (n : Int)) := fun H1 e Q q => h H1 e _ fun H2 e2 => ⟨(n : Int), rfl, q H2 e2⟩
theorem et_slice {xs : List V} {tl th : TO} {lo hi : Option Int} (h : ET te σ H xs) (hl : EvP tl σ H lo) (hh : EvP th σ H hi) : ET (tSl (rSlA K) te tl th) σ H (cutV xs lo hi) := fun H1 e Q q =>
  h H1 e _ fun p H2 e2 hp => hl H2 (e.trans e2) _ fun H3 e3 => hh H3 ((e.trans e2).trans e3) _ fun H4 e4 => ⟨p, xs, rfl, SqT.of (e4 _ _ (e3 _ _ hp)), fun w => by
    refine q p H4 ((e2.trans e3).trans e4) ?_
    have : cutV xs lo hi = xs := by
      unfold cutV
      rw [w.1, w.2, List.drop_zero, Nat.sub_zero, List.take_length]
    rw [this]
    exact e4 _ _ (e3 _ _ hp), fun _ r hr => q r _ (((e2.trans e3).trans e4).trans (Ex.new hr)) upd_same⟩
theorem cut_to (ls : List Nat) (n : Nat) : cutV (ls.map nV) none (some (n : Int)) = (ls.take n).map nV := by
  unfold cutV
  rw [HT.sIx_none, HT.sIx_nat, List.drop_zero, Nat.sub_zero, List.map_take, List.length_map]
  by_cases h : n ≤ ls.length
  · rw [Nat.min_eq_left h]
  · rw [Nat.min_eq_right (by omega), List.take_of_length_le (by rw [List.length_map]; exact Nat.le_refl _), List.take_of_length_le (by rw [List.length_map]; omega)]
theorem cut_from (ls : List Nat) (n : Nat) : cutV (ls.map nV) (some (n : Int)) none = (ls.drop n).map nV := by
  unfold cutV
  rw [HT.sIx_none, HT.sIx_nat, List.map_drop, List.length_map]
  by_cases h : n ≤ ls.length
  · rw [Nat.min_eq_left h, List.take_of_length_le (by rw [List.length_drop, List.length_map]; exact Nat.le_refl _)]
  · rw [Nat.min_eq_right (by omega), List.drop_of_length_le (by rw [List.length_map]; exact Nat.le_refl _), List.drop_of_length_le (by rw [List.length_map]; omega), List.take_nil]
theorem cut_mid (ls : List Nat) (n m : Nat) (h : n ≤ m) (h2 : m ≤ ls.length) : cutV (ls.map nV) (some (n : Int)) (some (m : Int)) = ((ls.drop n).take (m - n)).map nV := by
  unfold cutV
  rw [HT.sIx_nat, HT.sIx_nat, List.length_map, Nat.min_eq_left h2, Nat.min_eq_left (by omega), List.map_take, List.map_drop]
theorem etu_is {xs ys : List V} (h : ET te σ H xs) (e : xs = ys) : ET te σ H ys := e ▸ h
theorem et_cat {xs ys : List V} (h : ET ta σ H xs) (k : ET tb σ H ys) (hz : xs.length + ys.length ≤ 100000) : ET (tOp (rCatA K) ta tb) σ H (xs ++ ys) := fun H1 e Q q =>
  h H1 e _ fun p H2 e2 hp => k H2 (e.trans e2) _ fun r H3 e3 hr => ⟨p, r, xs, ys, rfl, rfl, SqT.of (e3 _ _ hp), SqT.of hr, sz_of hz, fun z => by
    subst z
    exact q r H3 (e2.trans e3) hr, fun _ z => by
    subst z
    refine q p H3 (e2.trans e3) ?_
    rw [List.append_nil]
    exact e3 _ _ hp, fun _ _ u hu => q u _ ((e2.trans e3).trans (Ex.new hu)) upd_same⟩
theorem et_repT {xs : List V} {k : Nat} (h : ET ta σ H xs) (hb : Ev tb σ H (nV k)) (h1 : xs.length ≤ 1000) (h2 : k ≤ 1000) : ET (tOp (rRepA K) ta tb) σ H (List.replicate k xs).flatten := fun H1 e Q q =>
  h H1 e _ fun p H2 e2 hp => hb H2 (e.trans e2) _ fun H3 e3 => ⟨p, (k : Int), xs, rfl, rfl, SqT.of (e3 _ _ hp), by omega, by omega, h1, fun z => by
    refine q p H3 (e2.trans e3) ?_
    have : (List.replicate k xs).flatten = xs := by
      rcases z with z | z
      · subst z
        have : ∀ n : Nat, (List.replicate n ([] : List V)).flatten = [] := fun n => by
          induction n with
          | zero => rfl
          | succ n ih => rw [List.replicate_succ, List.flatten_cons, ih] <;> rfl
        exact this k
      · have : k = 1 := by omega
        subst this
        show [xs].flatten = xs
        rw [List.flatten_cons, List.flatten_nil, List.append_nil]
    rw [this]
    exact e3 _ _ hp, fun _ r hr => by
    rw [Int.toNat_natCast]
    exact q r _ ((e2.trans e3).trans (Ex.new hr)) upd_same⟩
theorem rep_map (k : Nat) (l : List Nat) : (List.replicate k (l.map nV)).flatten = (rep k l).map nV := by
  induction k with
  | zero => rfl
  | succ k ih => rw [List.replicate_succ, List.flatten_cons, ih, rep_succ, List.map_append]
/-! ### an if whose test changes a list -/
variable {D : Ends} {t u : TT} {tu tw : TS} {l : Addr} {xs : List V} {x y : V}
theorem s_ifOr {a : Bool} (h : EvT t σ H a) (h1 : a = true → ∀ H1, Ex H H1 → tu D σ H1) (h2 : a = false → ∀ H1, Ex H H1 → u σ H1 (fun b H2 => if b = true then tu D σ H2 else tw D σ H2)) : tIfS (tOr t u) tu tw D σ H := h H (Ex.refl H) _ fun H1 e1 => by
  cases a with
  | true => exact h1 rfl H1 e1
  | false => exact h2 rfl H1 e1
theorem s_ifAnd {a : Bool} (h : EvT t σ H a) (h1 : a = true → ∀ H1, Ex H H1 → u σ H1 (fun b H2 => if b = true then tu D σ H2 else tw D σ H2)) (h2 : a = false → ∀ H1, Ex H H1 → tw D σ H1) : tIfS (tAnd t u) tu tw D σ H := h H (Ex.refl H) _ fun H1 e1 => by
  cases a with
  | true => exact h1 rfl H1 e1
  | false => exact h2 rfl H1 e1
theorem tt_or {a : Bool} {Q : Bool → Hp → Prop} (h : EvT t σ H a) (h1 : a = true → ∀ H1, Ex H H1 → Q true H1) (h2 : a = false → ∀ H1, Ex H H1 → u σ H1 Q) : tOr t u σ H Q := h H (Ex.refl H) _ fun H1 e1 => by
  cases a with
  | true => exact h1 rfl H1 e1
  | false => exact h2 rfl H1 e1
theorem tt_nePop {Q : Bool → Hp → Prop} (hx : Ev tb σ H x) (hl : H l = some (.lst (xs ++ [y]))) (ha : Ev ta σ H (.ref l)) (hs : scal x y = true) (k : ∀ H1, Ex H H1 → Q (!decide (x = y)) (upd H1 l (.lst xs))) : tTest (tOp rNe tb (tBM0 K "list" rPop ta)) σ H Q :=
  hx H (Ex.refl H) _ fun H1 e1 => ha H1 e1 _ fun H2 e2 => ⟨Or.inl ⟨rfl, _, sq_of (e2 _ _ (e1 _ _ hl))⟩, l, _, y, rfl, rfl, e2 _ _ (e1 _ _ hl), by simp, by
    rw [List.dropLast_concat]
    exact ⟨hs, _, rfl, k H2 (e1.trans e2)⟩⟩
theorem tt_popNe {Q : Bool → Hp → Prop} (hl : H l = some (.lst (xs ++ [y]))) (ha : Ev ta σ H (.ref l)) (hb : ∀ H1, Ex H H1 → Ev tb σ (upd H1 l (.lst xs)) x) (hs : scal y x = true) (k : ∀ H1 H2, Ex H H1 → Ex (upd H1 l (.lst xs)) H2 → Q (!decide (y = x)) H2) : tTest (tOp rNe (tBM0 K "list" rPop ta) tb) σ H Q :=
  ha H (Ex.refl H) _ fun H1 e1 => ⟨Or.inl ⟨rfl, _, sq_of (e1 _ _ hl)⟩, l, _, y, rfl, rfl, e1 _ _ hl, by simp, by
    rw [List.dropLast_concat]
    exact hb H1 e1 _ (Ex.refl _) _ fun H2 e2 => ⟨hs, _, rfl, k H1 H2 e1 e2⟩⟩
/-- for .. over a tuple, known by its items -/
theorem s_forE {tl : TE} {g : TG} {xs : List V} (h : ET tl σ H xs)
    (k : ∀ a H1, Ex H H1 → H1 a = some (.tup xs) → ∃ Pv : Nat → L2.St → Hp → Prop, Pv 0 σ H1 ∧ (∀ i σ' H', i ≤ xs.length → Pv i σ' H' → SqT K H' a xs) ∧
      (∀ i x σ' H', xs[i]? = some x → Pv i σ' H' → g x σ' H' fun σ2 H2 => tu { D with nx := Pv (i + 1), ct := Pv (i + 1), bk := D.nx } σ2 H2) ∧ (∀ σ' H', Pv xs.length σ' H' → D.nx σ' H')) : tFor (iTup K tl) g tu D σ H :=
  h H (Ex.refl H) _ fun a H1 e hx => by
    obtain ⟨Pv, h0, hl, hs, hd⟩ := k a H1 e hx
    exact ⟨a, rfl, ⟨xs, SqT.of hx⟩, for_tup Pv h0 hl hs hd⟩
end
end S
end

section
set_option Elab.async false
set_option linter.all false
set_option autoImplicit false
set_option maxRecDepth 100000
set_option maxHeartbeats 4000000
namespace S
open PySem PySem.Spec PyProof.Rows L2 Evl
section
variable {P : Program} {w : World} {K : PySem.W.Frag} {mg : Str → Option Value} {base : Heap}
/-! ### can_be_filled -/
theorem sc_can_be_filled : FnScope ["variant", "filled", "state"] ["variant", "filled"] (defScope (top 7)) := ⟨rfl, rfl, rfl, by decide +kernel, rfl, by decide +kernel, by decide +kernel⟩
-- slots: 0 variant, 1 filled, 2 state

def spCan : Sp := fun vs H Q _ => ∃ (a s l : Addr) (x : Var) (bs : List Bool), vs = [.ref a, .ref l] ∧ VarAt H a s x ∧ H l = some (.lst (bs.map V.bl)) ∧ (∀ t ∈ x.slots, t < bs.length) ∧ x.slots.length ≤ 3 ∧
  ∀ H', Ex H H' → Q (.bl (canB x bs)) H'
theorem pV_non {p : Option Nat} : (!decide (pV p = V.non)) = p.isSome := by
  cases p with
  | none => rfl
  | some n => rfl
theorem ok_can_be_filled (T : Txt K mg) : Good P w K mg base CX0 1 "can_be_filled" ["variant", "filled"] spCan := by
  refine Good.of T (j := 0) (i := 7) rfl rfl sc_can_be_filled (fun _ _ _ _ _ _ us hl => match us, hl with | [_, _], _ => rfl) (fun vs H Q E h => ?_) (fun cdv A outer s H vs Q E hr h => ?_)
  · obtain ⟨a, s, l, x, bs, rfl, _⟩ := h
    rfl
  · obtain ⟨a, s, l, x, bs, rfl, hv, hl, hb, h3, q⟩ := h
    refine ⟨_, (pss_one (ps_ret (pe_and (pe_cmpR op_notN (pe_ix ix_tup (pv 0) pe_int (fun _ _ => rfl)) pe_non (nomark _)) (pe_one (pe_callB (cr_all rfl) (by rfl) T.m_all (by decide +kernel) (pa_cons (pe_lc (own := [("state", 2)]) rfl sc_can_be_filled.nd (pi_tup (pe_ix ix_tup (pv 0) pe_int (fun _ _ => rfl))) (blkOk_by (own := [("state", 2)]) (N := ["variant", "filled", "state"]) (sc := defScope (top 7)) (by decide +kernel)) (fun _ _ _ _ _ => (pg_name (i := 2) sc_can_be_filled.nd rfl (.inl rfl))) (fun _ _ _ _ _ => pts_nil) (fun _ _ _ _ _ => (pe_ix (k_ixL (K := K) rfl) (pv 1) (pv 2) (fun _ _ => rfl)))) pa_nil)))))), ?_⟩
    refine s_ret (v := .bl (canB x bs)) ?_ fun H1 e1 => q H1 e1
    refine ev_andV (a := x.price.isSome) (b := (x.slots.map fun t => bs.getD t false).all id) (ev_is (ev_notN (ev_v2 (ev_var rfl) hv)) (by rw [pV_non])) fun _ => ev_allN (bs := x.slots.map fun t => bs.getD t false) ?_
    rw [List.map_map]
    have z := el_lcT (K := K) (H := H) (σ := [some (.ref a), some (.ref l), none]) (tl := tOp (rIxT K) (tVar 0) (tC (.int 1))) (te := tOp (rIxL K) (tVar 1) (tVar 2)) (t := tYes) (j := 2) (vs := [2]) x.slots nV (fun _ => true) (fun t => V.bl (bs.getD t false)) (et_of (ev_v1 (ev_var rfl) hv) hv.hs) (by omega)
      (fun _ _ _ _ => et_yes) (fun t ht _ H1 e => ev_ixL (i := t) (ev_var rfl) (ev_var rfl) (e _ _ hl) (get_map (get_of_lt (hb t ht))))
    rw [filter_true] at z
    exact z
/-! ### fill -/
theorem sc_fill : FnScope ["family", "filled", "grows", "variant"] ["family"] (defScope (top 8)) := ⟨rfl, rfl, rfl, by decide +kernel, rfl, by decide +kernel, by decide +kernel⟩
-- slots: 0 family, 1 filled, 2 grows, 3 variant

def spFill : Sp := fun vs H Q _ => ∃ (f : Addr) (L : Lay) (F : Fam), vs = [.ref f] ∧ FamAt H f L F ∧ ∀ p H' bs, Ex H H' → H p = none → H' p = some (.lst (bs.map V.bl)) → FillOk F bs → Q (.ref p) H'
theorem ev_bl {K : PySem.W.Frag} {σ : L2.St} {H : Hp} {l : Addr} {bs : List Bool} {ta tb : TE} {i : Nat} (ha : Ev ta σ H (.ref l)) (hb : Ev tb σ H (nV i)) (h : H l = some (.lst (bs.map V.bl))) (hi : i < bs.length) : Ev (tOp (rIxL K) ta tb) σ H (.bl (bs.getD i false)) :=
  ev_ixL (i := i) ha hb h (get_map (get_of_lt hi))
theorem ev_can {σ : L2.St} {H : Hp} {a s l : Addr} {x : Var} {bs : List Bool} {ta tb : TE} (ha : Ev ta σ H (.ref a)) (hb : Ev tb σ H (.ref l)) (hv : VarAt H a s x) (hl : H l = some (.lst (bs.map V.bl))) (h1 : ∀ t ∈ x.slots, t < bs.length) (h3 : x.slots.length ≤ 3) :
    Ev (tCall spCan [] E0 (tCons ta (tCons tb tNil))) σ H (.bl (canB x bs)) :=
  ev_call (ea_cons ha (ea_cons hb ea_nil)) fun H1 e Q q E => ⟨a, s, l, x, bs, rfl, hv.ex e, e _ _ hl, h1, h3, q⟩
theorem ok_fill (T : Txt K mg) : Good P w K mg base CX0 2 "fill" ["family"] spFill := by
  have G_can_be_filled : Good P w K mg base CX0 1 "can_be_filled" ["variant", "filled"] spCan := ok_can_be_filled T
  refine Good.of T (j := 1) (i := 8) rfl rfl sc_fill (fun _ _ _ _ _ _ us hl => match us, hl with | [_], _ => rfl) (fun vs H Q E h => ?_) (fun cdv A outer s H vs Q E hr h => ?_)
  · obtain ⟨f, L, F, rfl, _⟩ := h
    rfl
  · obtain ⟨f, L, F, rfl, hF, q⟩ := h
    refine ⟨_, (pss_cons (ps_set (i := 1) sc_fill.nd rfl (.inl rfl) (pe_op op_rep (pe_lst (pa_cons pe_bl pa_nil)) (pe_ix ix_tup (pv 0) pe_int (fun _ _ => rfl))))
(pss_cons (ps_set (i := 2) sc_fill.nd rfl (.inl rfl) pe_bl)
(pss_cons (ps_while PassesOwn.never (pt_val (pv 2))
(pss_cons (ps_set (i := 2) sc_fill.nd rfl (.inl rfl) pe_bl)
(pss_one (ps_for PassesOwn.never rfl (pi_tup (pe_ix ix_tup (pv 0) pe_int (fun _ _ => rfl))) (pg_name (i := 3) sc_fill.nd rfl (.inl rfl))
(pss_one (ps_if (PW.pt (pw_and (pt_not (pt_val (pe_ix ix_list (pv 1) (pe_ix ix_tup (pv 3) pe_int (fun _ _ => rfl)) (fun _ _ => rfl)))) (pw_and1 (pt_val (pe_c G_can_be_filled hr (pa_cons (pv 3) (pa_cons (pv 1) pa_nil)))))))
(pss_cons (ps_asg pe_bl (pg_sub (pv 1) (pe_ix ix_tup (pv 3) pe_int (fun _ _ => rfl)) set_list))
(pss_one (ps_set (i := 2) sc_fill.nd rfl (.inl rfl) pe_bl))) pss_nil))))))
(pss_one (ps_ret (pv 1)))))), ?_⟩
    have ok := hF.ok
    have c4 := ok.c4
    refine s_asgL (el_rep (n := F.cnt) (el_lst (ea_cons ev_c ea_nil) (by decide)) (ev_f0 (ev_var rfl) hF) (by show 1 * F.cnt ≤ _; omega) (by omega)) fun p H1 np e1 h1 => ?_
    rw [flat_rep] at h1
    have h1' : H1 p = some (.lst ((List.replicate F.cnt false).map V.bl)) := by rw [h1, List.map_replicate]
    refine s_asg ev_c fun H2 e2 => ?_
    have e02 := e1.trans e2
    refine s_while (fun m σ' H' => ∃ (bs : List Bool) (g : Bool) (y3 : Option V), σ' = [some (.ref f), some (.ref p), some (.bl g), y3] ∧ Ex H H' ∧ H' p = some (.lst (bs.map V.bl)) ∧ bs.length = F.cnt ∧
        (∀ t, bs.getD t false = true → Filled F t) ∧ (g = false → ∀ x ∈ F.vs, canB x bs = true → bs.getD x.plug false = true) ∧ m = nF bs + (if g then 1 else 0)) _
      ⟨List.replicate F.cnt false, true, none, rfl, e02, e2 _ _ h1', List.length_replicate, fun t ht => ?_, (fun z => nomatch z), rfl⟩ (fun m σ' H' hW => ?_)
    · rw [List.getD_eq_getElem?_getD, List.getElem?_replicate] at ht
      split at ht <;> cases ht
    · obtain ⟨bs, g, y3, rfl, eH, hp, hl, hf, hc, rfl⟩ := hW
      refine ⟨g, et_B (ev_var rfl), fun hg H3 e3 => ?_, fun hg H3 e3 => ?_⟩
      · subst hg
        refine ⟨_, fun σ2 H2 z => z, ?_⟩
        refine s_asg ev_c fun H4 e4 => ?_
        have eH4 := eH.trans (e3.trans e4)
        have hp4 := e4 _ _ (e3 _ _ hp)
        refine s_forT (ev_f2 (ev_var rfl) (hF.ex eH4)) (SqT.of (hF.ex eH4).h2) (fun i σ' H' => ∃ (cs : List Bool) (g : Bool) (y3 : Option V), σ' = [some (.ref f), some (.ref p), some (.bl g), y3] ∧ Ex H H' ∧ H' p = some (.lst (cs.map V.bl)) ∧ cs.length = F.cnt ∧
          (∀ t, cs.getD t false = true → Filled F t) ∧ (g = false → cs = bs ∧ ∀ j x, j < i → F.vs[j]? = some x → canB x bs = true → bs.getD x.plug false = true) ∧ (g = true → nF cs < nF bs))
          (fun H5 e5 => ⟨bs, false, y3, rfl, eH4.trans e5, e5 _ _ hp4, hl, hf, fun _ => ⟨rfl, fun j x hj => absurd hj (Nat.not_lt_zero _)⟩, (fun z => nomatch z)⟩)
          (fun i σ' H' _ hW => SqT.of (hF.ex (by obtain ⟨_, _, _, _, z, _⟩ := hW; exact z)).h2) (fun i x σ' H' hi hW => ?_) (fun σ' H' hW => ?_)
        · obtain ⟨cs, g, y3, rfl, eH', hp', hl', hf', hg0, hg1⟩ := hW
          obtain ⟨x, hx, rfl⟩ := FamAt.vs F L hi
          have hv := (hF.ex eH').h3 i x hx
          have mx := get_mem hx
          have lp : x.plug < cs.length := by rw [hl']; exact ok.pl x mx
          have ls : ∀ t ∈ x.slots, t < cs.length := fun t ht => by rw [hl']; exact ok.sl x mx t ht
          refine s_if (b := !cs.getD x.plug false && canB x cs) (et_and (et_not (et_B (ev_bl (ev_var rfl) (ev_v0 (ev_var rfl) hv) hp' lp))) fun _ => et_B (ev_can (ev_var rfl) (ev_var rfl) hv hp' ls (ok.s3 x mx))) (fun hb H5 e5 => ?_) (fun hb H5 e5 => ?_)
          · obtain ⟨b1, b2⟩ := Bool.and_eq_true_iff.mp hb
            have b1' : cs.getD x.plug false = false := by simpa using b1
            have hcan := canB_iff.mp b2
            have hget : cs[x.plug]? = some false := by rw [get_of_lt lp, b1']
            have e5p := e5 _ _ hp'
            refine s_setL (l := p) (j := x.plug) e5p ev_c (ev_var rfl) (ev_v0 (ev_var rfl) (hv.ex e5)) (by rw [List.length_map]; exact lp) fun H6 e6 => ?_
            have eH6 : Ex H (upd H6 p (.lst ((cs.map V.bl).set x.plug (.bl true)))) := Ex.mut (eH'.trans (e5.trans e6)) np
            refine s_asg ev_c fun H7 e7 => ⟨cs.set x.plug true, true, _, rfl, eH6.trans e7, e7 _ _ (by rw [upd_same, List.map_set]), by rw [List.length_set]; exact hl', fun t ht => ?_, (fun z => nomatch z), fun _ => ?_⟩
            · rcases (getD_set lp).mp ht with rfl | ht
              · exact .mk mx hcan.1 fun s hs => hf' s (hcan.2 s hs)
              · exact hf' t ht
            · have n1 := nF_set hget
              cases g with
              | true => have := hg1 rfl; omega
              | false => rw [← (hg0 rfl).1]; omega
          · refine ⟨cs, g, _, rfl, eH'.trans e5, e5 _ _ hp', hl', hf', fun z => ?_, hg1⟩
            obtain ⟨ecs, hall⟩ := hg0 z
            subst ecs
            refine ⟨rfl, fun j y hj hy hcy => ?_⟩
            rcases Nat.lt_succ_iff_lt_or_eq.mp hj with hj | hj
            · exact hall j y hj hy hcy
            · subst hj
              rw [hx] at hy
              have ey := Option.some.inj hy
              subst ey
              cases hh : cs.getD x.plug false with
              | true => rfl
              | false => rw [hh, hcy] at hb; cases hb
        · obtain ⟨cs, g, y3, rfl, eH', hp', hl', hf', hg0, hg1⟩ := hW
          refine ⟨nF cs + (if g then 1 else 0), ?_, cs, g, y3, rfl, eH', hp', hl', hf', fun z x hx hcx => ?_, rfl⟩
          · cases g with
            | true => have := hg1 rfl; show nF cs + 1 < nF bs + 1; omega
            | false => rw [(hg0 rfl).1]; show nF bs + 0 < nF bs + 1; omega
          · obtain ⟨ecs, hall⟩ := hg0 z
            subst ecs
            obtain ⟨j, hj⟩ := List.getElem?_of_mem hx
            exact hall j x (by rw [List.length_map, List.length_range]; exact get_lt hj) hj hcx
      · subst hg
        refine s_ret (ev_var rfl) fun H4 e4 => q p H4 bs (eH.trans (e3.trans e4)) np ((e3.trans e4) _ _ hp) (fill_end ok hl hf (hc rfl))
end
end S
end

section
set_option Elab.async false
set_option linter.all false
set_option autoImplicit false
set_option maxRecDepth 100000
set_option maxHeartbeats 4000000
namespace S
open PySem PySem.Spec PyProof.Rows L2 Evl
section
variable {P : Program} {w : World} {K : PySem.W.Frag} {mg : Str → Option Value} {base : Heap}
/-! ### reach -/
theorem sc_reach : FnScope ["family", "filled", "state", "below", "variant", "reached", "waiting"] ["family", "filled"] (defScope (top 9)) := ⟨rfl, rfl, rfl, by decide +kernel, rfl, by decide +kernel, by decide +kernel⟩
-- slots: 0 family, 1 filled, 2 state, 3 below, 4 variant, 5 reached, 6 waiting

def spReach : Sp := fun vs H Q _ => ∃ (f l : Addr) (L : Lay) (F : Fam) (bs : List Bool), vs = [.ref f, .ref l] ∧ FamAt H f L F ∧ H l = some (.lst (bs.map V.bl)) ∧ FillOk F bs ∧
  ∀ p H' rs, Ex H H' → H p = none → H' p = some (.lst (rs.map V.bl)) → ReachOk F rs → Q (.ref p) H'
/-- what stands below the states, by the first i variants -/
structure BelowF (F : Fam) (bs : List Bool) (i : Nat) (nss : List (List Nat)) : Prop where
  len : nss.length = F.cnt
  mem : ∀ (s : Nat) (ns : List Nat), nss[s]? = some ns → ∀ t, t ∈ ns ↔ ∃ j x, j < i ∧ F.vs[j]? = some x ∧ x.plug = s ∧ canB x bs = true ∧ t ∈ x.slots
  small : ∀ (s : Nat) (ns : List Nat), nss[s]? = some ns → ns.length ≤ 3 * i
theorem BelowF.yes {F : Fam} {bs : List Bool} {i : Nat} {nss : List (List Nat)} (h : BelowF F bs i nss) {x : Var} (hx : F.vs[i]? = some x) (h3 : x.slots.length ≤ 3) (hb : canB x bs = true) {ns : List Nat} (hn : nss[x.plug]? = some ns) : BelowF F bs (i + 1) (nss.set x.plug (ns ++ x.slots)) := by
  have hl : x.plug < nss.length := get_lt hn
  refine ⟨by rw [List.length_set]; exact h.len, fun s ms hs t => ?_, fun s ms hs => ?_⟩
  · by_cases e : s = x.plug
    · subst e
      rw [List.getElem?_set_self hl] at hs
      rw [← Option.some.inj hs, List.mem_append, h.mem _ _ hn t]
      constructor
      · rintro (⟨j, y, h1, h2⟩ | ht)
        · exact ⟨j, y, by omega, h2⟩
        · exact ⟨i, x, by omega, hx, rfl, hb, ht⟩
      · rintro ⟨j, y, h1, h2, h4, h5, h6⟩
        rcases Nat.lt_succ_iff_lt_or_eq.mp h1 with h1 | h1
        · exact .inl ⟨j, y, h1, h2, h4, h5, h6⟩
        · subst h1
          rw [hx] at h2
          rw [Option.some.inj h2]
          exact .inr h6
    · rw [List.getElem?_set_ne (fun z => e z.symm)] at hs
      rw [h.mem _ _ hs t]
      constructor
      · rintro ⟨j, y, h1, h2⟩
        exact ⟨j, y, by omega, h2⟩
      · rintro ⟨j, y, h1, h2, h4, h5, h6⟩
        rcases Nat.lt_succ_iff_lt_or_eq.mp h1 with h1 | h1
        · exact ⟨j, y, h1, h2, h4, h5, h6⟩
        · subst h1
          rw [hx] at h2
          rw [← Option.some.inj h2] at h4
          exact absurd h4.symm e
  · by_cases e : s = x.plug
    · subst e
      rw [List.getElem?_set_self hl] at hs
      rw [← Option.some.inj hs, List.length_append]
      have := h.small _ _ hn
      omega
    · rw [List.getElem?_set_ne (fun z => e z.symm)] at hs
      have := h.small _ _ hs
      omega
theorem BelowF.no {F : Fam} {bs : List Bool} {i : Nat} {nss : List (List Nat)} (h : BelowF F bs i nss) {x : Var} (hx : F.vs[i]? = some x) (hb : canB x bs = false) : BelowF F bs (i + 1) nss := by
  refine ⟨h.len, fun s ms hs t => ?_, fun s ms hs => by have := h.small _ _ hs; omega⟩
  rw [h.mem _ _ hs t]
  constructor
  · rintro ⟨j, y, h1, h2⟩
    exact ⟨j, y, by omega, h2⟩
  · rintro ⟨j, y, h1, h2, h4, h5, h6⟩
    rcases Nat.lt_succ_iff_lt_or_eq.mp h1 with h1 | h1
    · exact ⟨j, y, h1, h2, h4, h5, h6⟩
    · subst h1
      rw [hx] at h2
      rw [← Option.some.inj h2, hb] at h5
      cases h5
theorem ok_reach (T : Txt K mg) : Good P w K mg base CX0 2 "reach" ["family", "filled"] spReach := by
  have G_can_be_filled : Good P w K mg base CX0 1 "can_be_filled" ["variant", "filled"] spCan := ok_can_be_filled T
  refine Good.of T (j := 2) (i := 9) rfl rfl sc_reach (fun _ _ _ _ _ _ us hl => match us, hl with | [_, _], _ => rfl) (fun vs H Q E h => ?_) (fun cdv A outer s H vs Q E hr h => ?_)
  · obtain ⟨f, l, L, F, bs, rfl, _⟩ := h
    rfl
  · obtain ⟨f, l, L, F, bs, rfl, hF, hl, hfo, q⟩ := h
    refine ⟨_, (pss_cons (ps_setLc (i := 3) (own := [("state", 2)]) rfl sc_reach.nd rfl rfl (sw_true rfl rfl rfl (by decide +kernel)) (pi_range1 (by rfl) T.m_range (pa_cons (pe_ix ix_tup (pv 0) pe_int (fun _ _ => rfl)) pa_nil)) (blkOk_by (own := [("state", 2)]) (N := ["family", "filled", "state", "below", "variant", "reached", "waiting"]) (sc := defScope (top 9)) (by decide +kernel)) (fun _ _ _ _ _ => (pg_name (i := 2) sc_reach.nd rfl (.inl rfl))) (fun _ _ _ _ _ => pts_nil) (fun _ _ _ _ _ => (pe_lst pa_nil)))
(pss_cons (ps_for PassesOwn.never rfl (pi_tup (pe_ix ix_tup (pv 0) pe_int (fun _ _ => rfl))) (pg_name (i := 4) sc_reach.nd rfl (.inl rfl))
(pss_one (ps_if (pt_val (pe_c G_can_be_filled hr (pa_cons (pv 4) (pa_cons (pv 1) pa_nil))))
(pss_one (ps_expr (pe_bm PySem.F.plainAttrs_list PySem.F.slot_list_extend PySem.F.type_list_extend mt_extendT (pe_ix ix_list (pv 3) (pe_ix ix_tup (pv 4) pe_int (fun _ _ => rfl)) (fun _ _ => rfl)) (pa_cons (pe_ix ix_tup (pv 4) pe_int (fun _ _ => rfl)) pa_nil)))) pss_nil)))
(pss_cons (ps_set (i := 5) sc_reach.nd rfl (.inl rfl) (pe_op op_rep (pe_lst (pa_cons pe_bl pa_nil)) (pe_ix ix_tup (pv 0) pe_int (fun _ _ => rfl))))
(pss_cons (ps_set (i := 6) sc_reach.nd rfl (.inl rfl) (pe_callTy call_list_of (by rfl) T.m_list (by decide +kernel) (pa_cons (pe_ix ix_tup (pv 0) pe_int (fun _ _ => rfl)) pa_nil)))
(pss_cons (ps_while PassesOwn.never (pt_tru (pv 6) (by intro _; rfl))
(pss_cons (ps_set (i := 2) sc_reach.nd rfl (.inl rfl) (pe_bm0 PySem.F.plainAttrs_list PySem.F.slot_list_pop PySem.F.type_list_pop mt_pop (pv 6)))
(pss_one (ps_if (pt_not (pt_val (pe_ix ix_list (pv 5) (pv 2) (fun _ _ => rfl))))
(pss_cons (ps_asg pe_bl (pg_sub (pv 5) (pv 2) set_list))
(pss_one (ps_expr (pe_bm PySem.F.plainAttrs_list PySem.F.slot_list_extend PySem.F.type_list_extend mt_extend (pv 6) (pa_cons (pe_ix ix_list (pv 3) (pv 2) (fun _ _ => rfl)) pa_nil))))) pss_nil))))
(pss_one (ps_ret (pv 5)))))))), ?_⟩
    have ok := hF.ok
    have c4 := ok.c4
    have v12 := ok.v12
    -- below
    refine s_lists (n := F.cnt) (xs := []) (ea_cons (ev_f0 (ev_var rfl) hF) ea_nil) (by omega) (fun a _ H1 _ => el_lst ea_nil (by decide)) fun b H1 ps e1 nb pl hb1 npf => ?_
    refine s_forT (ev_f2 (ev_var rfl) (hF.ex e1)) (SqT.of (hF.ex e1).h2) (fun i σ' H' => ∃ (nss : List (List Nat)) (y : Option V), σ' = [some (.ref f), some (.ref l), none, some (.ref b), y, none, none] ∧ Ex H H' ∧ LsAt H' b ps (nss.map (·.map nV)) ∧ BelowF F bs i nss)
      (fun H2 e2 => ⟨List.replicate F.cnt [], none, rfl, e1.trans e2, by rw [List.map_replicate]; exact hb1.ex e2, List.length_replicate, fun s ns hs t => ?_, fun s ns hs => ?_⟩)
      (fun i σ' H' _ hW => SqT.of (hF.ex (by obtain ⟨_, _, _, z, _⟩ := hW; exact z)).h2) (fun i x σ' H' hi hW => ?_) (fun σ' H' hW => ?_)
    · rw [List.getElem?_replicate] at hs
      split at hs
      · rw [← Option.some.inj hs]
        exact ⟨fun z => absurd z List.not_mem_nil, fun ⟨_, _, z, _⟩ => absurd z (Nat.not_lt_zero _)⟩
      · cases hs
    · rw [List.getElem?_replicate] at hs
      split at hs
      · rw [← Option.some.inj hs]
        exact Nat.zero_le _
      · cases hs
    · obtain ⟨nss, y, rfl, eH, hls, hB⟩ := hW
      obtain ⟨x, hx, rfl⟩ := FamAt.vs F L hi
      have hv := (hF.ex eH).h3 i x hx
      have mx := get_mem hx
      have lil := get_lt hx
      have lp : x.plug < nss.length := by rw [hB.len]; exact ok.pl x mx
      have ls : ∀ t ∈ x.slots, t < bs.length := fun t ht => by rw [hfo.len]; exact ok.sl x mx t ht
      have hget : nss[x.plug]? = some nss[x.plug] := List.getElem?_eq_getElem lp
      have hsm := hB.small _ _ hget
      have h3 := ok.s3 x mx
      obtain ⟨r, hr1, hr2⟩ := hls.at (get_map hget)
      refine s_if (et_B (ev_can (ev_var rfl) (ev_var rfl) hv (eH _ _ hl) ls h3)) (fun hb H5 e5 => ?_) (fun hb H5 e5 => ?_)
      · refine s_extT (e5 _ _ hr2) (ev_ls (ev_var rfl) (ev_v0 (ev_var rfl) (hv.ex e5)) (hls.ex e5) hr1) (et_of (ev_v1 (ev_var rfl) (hv.ex e5)) (hv.ex e5).hs) (by rw [List.length_map, List.length_map]; omega) fun H6 e6 => ?_
        refine ⟨nss.set x.plug (nss[x.plug] ++ x.slots), _, rfl, Ex.mut (eH.trans (e5.trans e6)) (npf r (get_mem hr1)), ?_, hB.yes hx h3 hb hget⟩
        rw [List.map_set, List.map_append]
        exact (hls.ex (e5.trans e6)).upd hr1
      · exact ⟨nss, _, rfl, eH.trans e5, hls.ex e5, hB.no hx hb⟩
    · obtain ⟨nss, y, rfl, eH, hls, hB⟩ := hW
      rw [List.length_map, List.length_range] at hB
      have hcan : ∀ s ns, nss[s]? = some ns → ∀ t, t ∈ ns ↔ ∃ x, x ∈ F.vs ∧ x.plug = s ∧ Can F x ∧ t ∈ x.slots := fun s ns hs t => by
        rw [hB.mem s ns hs t]
        constructor
        · rintro ⟨j, x, _, h2, h4, h5, h6⟩
          exact ⟨x, get_mem h2, h4, (hfo.can ok (get_mem h2)).mp h5, h6⟩
        · rintro ⟨x, h2, h4, h5, h6⟩
          obtain ⟨j, hj⟩ := List.getElem?_of_mem h2
          exact ⟨j, x, get_lt hj, hj, h4, (hfo.can ok h2).mpr h5, h6⟩
      -- reached = [False] * family[0]; waiting = list(family[1])
      refine s_asgL (el_rep (n := F.cnt) (el_lst (ea_cons ev_c ea_nil) (by decide)) (ev_f0 (ev_var rfl) (hF.ex eH)) (by show 1 * F.cnt ≤ _; omega) (by omega)) fun p H2 np e2 h2 => ?_
      rw [flat_rep] at h2
      have h2' : H2 p = some (.lst ((List.replicate F.cnt false).map V.bl)) := by rw [h2, List.map_replicate]
      have eH2 := eH.trans e2
      refine s_asgL (el_listT (et_of (ev_f1 (ev_var rfl) (hF.ex eH2)) (hF.ex eH2).h1)) fun u H3 nu e3 h3 => ?_
      have eH3 := eH2.trans e3
      have npH : H p = none := fresh_back eH np
      have nuH : H u = none := fresh_back eH2 nu
      have hup : u ≠ p := fun z => by rw [z, h2] at nu; cases nu
      have pb : p ≠ b := fun z => by rw [z, hls.h] at np; cases np
      have pps : p ∉ ps := fun z => by
        obtain ⟨i, hi⟩ := List.getElem?_of_mem z
        have hil : i < (nss.map (·.map nV)).length := by rw [← hls.len]; exact get_lt hi
        have := hls.each i p _ hi (List.getElem?_eq_getElem hil)
        rw [np] at this
        cases this
      have ub : u ≠ b := fun z => by rw [z, (hls.ex e2).h] at nu; cases nu
      have ups : u ∉ ps := fun z => by
        obtain ⟨i, hi⟩ := List.getElem?_of_mem z
        have hil : i < (nss.map (·.map nV)).length := by rw [← hls.len]; exact get_lt hi
        have := (hls.ex e2).each i u _ hi (List.getElem?_eq_getElem hil)
        rw [nu] at this
        cases this
      refine s_while (fun m σ' H' => ∃ (rs : List Bool) (ws : List Nat) (y2 : Option V), σ' = [some (.ref f), some (.ref l), y2, some (.ref b), y, some (.ref p), some (.ref u)] ∧ Ex H H' ∧ LsAt H' b ps (nss.map (·.map nV)) ∧ H' p = some (.lst (rs.map V.bl)) ∧ H' u = some (.lst (ws.map nV)) ∧
          rs.length = F.cnt ∧ (∀ s, rs.getD s false = true → Reached F s) ∧ (∀ s ∈ ws, Reached F s) ∧ (∀ r ∈ F.roots, rs.getD r false = true ∨ r ∈ ws) ∧
          (∀ x ∈ F.vs, Can F x → rs.getD x.plug false = true → ∀ s ∈ x.slots, rs.getD s false = true ∨ s ∈ ws) ∧ ws.length + 36 * nF rs ≤ 200 ∧ m = ws.length + 37 * nF rs) _
        ⟨List.replicate F.cnt false, F.roots, none, rfl, eH3, hls.ex (e2.trans e3), e3 _ _ h2', h3, List.length_replicate, fun s hs => ?_, fun s hs => .root hs, fun r hr => .inr hr, fun x _ _ hx => ?_, ?_, rfl⟩ (fun m σ' H' hW => ?_)
      · rw [List.getD_eq_getElem?_getD, List.getElem?_replicate] at hs
        split at hs <;> cases hs
      · rw [List.getD_eq_getElem?_getD, List.getElem?_replicate] at hx
        split at hx <;> cases hx
      · have h4 := nF_le (List.replicate F.cnt false)
        rw [List.length_replicate] at h4
        have h5 : F.roots.length ≤ F.cnt := by
          have := nodup_le ok.rn ok.rl
          exact this
        omega
      · obtain ⟨rs, ws, y2, rfl, eH', hls', hp, hu, hrl, hr1, hr2, hr3, hr4, hsz, rfl⟩ := hW
        refine ⟨_, et_lst (ev_var rfl) hu, fun hne H5 e5 => ⟨_, fun σ2 H2 z => z, ?_⟩, fun hne H5 e5 => ?_⟩
        · rcases snoc_cases ws with rfl | ⟨us, s, rfl⟩
          · cases hne
          · have hu5 : H5 u = some (.lst (us.map nV ++ [nV s])) := by
              rw [e5 _ _ hu, List.map_append] <;> rfl
            refine s_pop hu5 (ev_var rfl) fun H6 e6 => ?_
            have e56 := e5.trans e6
            have eH7 : Ex H (L2.upd H6 u (.lst (us.map nV))) := Ex.mut (eH'.trans e56) nuH
            have hls7 := (hls'.ex e56).other (o := .lst (us.map nV)) ub ups
            have hp7 : (L2.upd H6 u (.lst (us.map nV))) p = some (.lst (rs.map V.bl)) := by rw [upd_ne (fun z => hup z.symm)]; exact e56 _ _ hp
            have hu7 : (L2.upd H6 u (.lst (us.map nV))) u = some (.lst (us.map nV)) := upd_same
            generalize L2.upd H6 u (.lst (us.map nV)) = H7 at *
            have hsr : Reached F s := hr2 s (List.mem_append_right _ (List.mem_singleton.mpr rfl))
            have hsl : s < rs.length := by rw [hrl]; exact hsr.lt ok
            have hsn : s < nss.length := by rw [hB.len]; exact hsr.lt ok
            have hget : nss[s]? = some nss[s] := List.getElem?_eq_getElem hsn
            have hsm := hB.small _ _ hget
            rw [List.length_append, List.length_singleton] at hsz
            refine s_if (et_not (et_B (ev_bl (ev_var rfl) (ev_var rfl) hp7 hsl))) (fun hb H8 e8 => ?_) (fun hb H8 e8 => ?_)
            · have hb' : rs.getD s false = false := by simpa using hb
              have hgs : rs[s]? = some false := by rw [get_of_lt hsl, hb']
              refine s_setL (l := p) (j := s) (e8 _ _ hp7) ev_c (ev_var rfl) (ev_var rfl) (by rw [List.length_map]; exact hsl) fun H9 e9 => ?_
              have e89 := e8.trans e9
              have eHa : Ex H (L2.upd H9 p (.lst ((rs.map V.bl).set s (.bl true)))) := Ex.mut (eH7.trans e89) npH
              have hlsa := (hls7.ex e89).other (o := .lst ((rs.map V.bl).set s (.bl true))) pb pps
              have hpa : (L2.upd H9 p (.lst ((rs.map V.bl).set s (.bl true)))) p = some (.lst ((rs.set s true).map V.bl)) := by rw [upd_same, List.map_set]
              have hua : (L2.upd H9 p (.lst ((rs.map V.bl).set s (.bl true)))) u = some (.lst (us.map nV)) := by rw [upd_ne hup]; exact e89 _ _ hu7
              generalize L2.upd H9 p (.lst ((rs.map V.bl).set s (.bl true))) = Ha at *
              obtain ⟨r, hra, hrb⟩ := hlsa.at (get_map hget)
              refine s_extL hua hrb (ev_var rfl) (ev_ls (ev_var rfl) (ev_var rfl) hlsa hra) (by rw [List.length_map, List.length_map]; omega) fun Hb eb => ?_
              have n1 := nF_set hgs
              refine ⟨_, ?_, rs.set s true, us ++ nss[s], _, rfl, Ex.mut (eHa.trans eb) nuH, (hlsa.ex eb).other ub ups, by rw [upd_ne (fun z => hup z.symm)]; exact eb _ _ hpa, by rw [upd_same, List.map_append], by rw [List.length_set]; exact hrl, fun t ht => ?_, fun t ht => ?_, fun r hr => ?_, fun x hx hc hxp t ht => ?_, ?_, rfl⟩
              · rw [List.length_append, List.length_append, List.length_singleton]
                omega
              · rcases (getD_set hsl).mp ht with rfl | ht
                · exact hsr
                · exact hr1 t ht
              · rcases List.mem_append.mp ht with ht | ht
                · exact hr2 t (List.mem_append_left _ ht)
                · obtain ⟨x, hx, rfl, hc, hxt⟩ := (hcan _ _ hget t).mp ht
                  exact .step hsr hx hc hxt
              · rcases hr3 r hr with h | h
                · exact .inl ((getD_set hsl).mpr (.inr h))
                · rcases List.mem_append.mp h with h | h
                  · exact .inr (List.mem_append_left _ h)
                  · exact .inl ((getD_set hsl).mpr (.inl (List.mem_singleton.mp h)))
              · rcases (getD_set hsl).mp hxp with e | h
                · exact .inr (List.mem_append_right _ ((hcan _ _ hget t).mpr ⟨x, hx, e, hc, ht⟩))
                · rcases hr4 x hx hc h t ht with h | h
                  · exact .inl ((getD_set hsl).mpr (.inr h))
                  · rcases List.mem_append.mp h with h | h
                    · exact .inr (List.mem_append_left _ h)
                    · exact .inl ((getD_set hsl).mpr (.inl (List.mem_singleton.mp h)))
              · rw [List.length_append]
                omega
            · have hb' : rs.getD s false = true := by simpa using hb
              refine ⟨_, ?_, rs, us, _, rfl, eH7.trans e8, hls7.ex e8, e8 _ _ hp7, e8 _ _ hu7, hrl, hr1, fun t ht => hr2 t (List.mem_append_left _ ht), fun r hr => ?_, fun x hx hc hxp t ht => ?_, by omega, rfl⟩
              · rw [List.length_append, List.length_singleton]
                omega
              · rcases hr3 r hr with h | h
                · exact .inl h
                · rcases List.mem_append.mp h with h | h
                  · exact .inr h
                  · rw [List.mem_singleton.mp h]
                    exact .inl hb'
              · rcases hr4 x hx hc hxp t ht with h | h
                · exact .inl h
                · rcases List.mem_append.mp h with h | h
                  · exact .inr h
                  · rw [List.mem_singleton.mp h]
                    exact .inl hb'
        · have ews : ws = [] := by
            cases ws with
            | nil => rfl
            | cons a r => cases hne
          subst ews
          refine s_ret (ev_var rfl) fun H6 e6 => q p H6 rs (eH'.trans (e5.trans e6)) npH ((e5.trans e6) _ _ hp) (reach_end ok hrl hr1 (fun r hr => (hr3 r hr).resolve_right List.not_mem_nil) fun x hx hc hxp s hs => (hr4 x hx hc hxp s hs).resolve_right List.not_mem_nil)
end
end S
end

section
set_option Elab.async false
set_option linter.all false
set_option autoImplicit false
set_option maxRecDepth 100000
set_option maxHeartbeats 4000000
namespace S
open PySem PySem.Spec PyProof.Rows L2 Evl
section
variable {P : Program} {w : World} {K : PySem.W.Frag} {mg : Str → Option Value} {base : Heap}
theorem ex_fill {σ : L2.St} {H : Hp} {ta : TE} {f : Addr} {L : Lay} {F : Fam} (ha : Ev ta σ H (.ref f)) (hF : FamAt H f L F) :
    EX (tCall spFill [] E0 (tCons ta tNil)) σ H (fun v H' => ∃ p bs, v = .ref p ∧ H' p = some (.lst (bs.map V.bl)) ∧ FillOk F bs) :=
  ex_call (ea_cons ha ea_nil) fun H1 e Q q E => ⟨f, L, F, rfl, hF.ex e, fun p H' bs e' _ hp ho => q _ _ e' ⟨p, bs, rfl, hp, ho⟩⟩
theorem ex_reach {σ : L2.St} {H : Hp} {ta tb : TE} {f l : Addr} {L : Lay} {F : Fam} {bs : List Bool} (ha : Ev ta σ H (.ref f)) (hb : Ev tb σ H (.ref l)) (hF : FamAt H f L F) (hl : H l = some (.lst (bs.map V.bl))) (ho : FillOk F bs) :
    EX (tCall spReach [] E0 (tCons ta (tCons tb tNil))) σ H (fun v H' => ∃ p rs, v = .ref p ∧ H' p = some (.lst (rs.map V.bl)) ∧ ReachOk F rs) :=
  ex_call (ea_cons ha (ea_cons hb ea_nil)) fun H1 e Q q E => ⟨f, l, L, F, bs, rfl, hF.ex e, e _ _ hl, ho, fun p H' rs e' _ hp ho => q _ _ e' ⟨p, rs, rfl, hp, ho⟩⟩
/-! ### useful_variants -/
theorem sc_useful_variants : FnScope ["family", "filled", "reached", "variants", "k"] ["family"] (defScope (top 10)) := ⟨rfl, rfl, rfl, by decide +kernel, rfl, by decide +kernel, by decide +kernel⟩
-- slots: 0 family, 1 filled, 2 reached, 3 variants, 4 k

structure UsefulL (F : Fam) (us : List Nat) : Prop where
  mem : ∀ k, k ∈ us ↔ ∃ x, F.vs[k]? = some x ∧ Useful F x
  len : us.length ≤ F.vs.length
def spUseful : Sp := fun vs H Q _ => ∃ (f : Addr) (L : Lay) (F : Fam), vs = [.ref f] ∧ FamAt H f L F ∧ ∀ p H' us, Ex H H' → H' p = some (.tup (us.map nV)) → UsefulL F us → Q (.ref p) H'
theorem ok_useful_variants (T : Txt K mg) : Good P w K mg base CX0 3 "useful_variants" ["family"] spUseful := by
  have G_can_be_filled : Good P w K mg base CX0 2 "can_be_filled" ["variant", "filled"] spCan := (ok_can_be_filled T).mono (by decide)
  have G_fill : Good P w K mg base CX0 2 "fill" ["family"] spFill := ok_fill T
  have G_reach : Good P w K mg base CX0 2 "reach" ["family", "filled"] spReach := ok_reach T
  refine Good.of T (j := 3) (i := 10) rfl rfl sc_useful_variants (fun _ _ _ _ _ _ us hl => match us, hl with | [_], _ => rfl) (fun vs H Q E h => ?_) (fun cdv A outer s H vs Q E hr h => ?_)
  · obtain ⟨f, L, F, rfl, _⟩ := h
    rfl
  · obtain ⟨f, L, F, rfl, hF, q⟩ := h
    refine ⟨_, (pss_cons (ps_set (i := 1) sc_useful_variants.nd rfl (.inr rfl) (pe_c G_fill hr (pa_cons (pv 0) pa_nil)))
(pss_cons (ps_set (i := 2) sc_useful_variants.nd rfl (.inr rfl) (pe_c G_reach hr (pa_cons (pv 0) (pa_cons (pv 1) pa_nil))))
(pss_cons (ps_set (i := 3) sc_useful_variants.nd rfl (.inr rfl) (pe_ix ix_tup (pv 0) pe_int (fun _ _ => rfl)))
(pss_one (ps_ret (pe_callTy call_tuple_of (by rfl) T.m_tuple (by decide +kernel) (pa_cons (pe_lc (own := [("k", 4)]) rfl sc_useful_variants.nd (pi_range1 (by rfl) T.m_range (pa_cons (pe_callB call_len_seq (by rfl) T.m_len PySem.boot_len (pa_cons (pv 3) pa_nil)) pa_nil)) (blkOk_by (own := [("k", 4)]) (N := ["family", "filled", "reached", "variants", "k"]) (sc := defScope (top 10)) (by decide +kernel)) (fun _ _ _ _ _ => (pg_name (i := 4) sc_useful_variants.nd rfl (.inl rfl))) (fun _ _ _ _ _ => (pts_one (PW.pt (pw_and (pt_val (pe_ix (k_ixL (K := K) rfl) (pv 2) (pe_ix (k_ixT (K := K) rfl) (pe_ix (k_ixT (K := K) rfl) (pv 3) (pv 4) (fun _ _ => rfl)) pe_int (fun _ _ => rfl)) (fun _ _ => rfl))) (pw_and1 (pt_val (pe_c G_can_be_filled hr (pa_cons (pe_ix (k_ixT (K := K) rfl) (pv 3) (pv 4) (fun _ _ => rfl)) (pa_cons (pv 1) pa_nil))))))))) (fun _ _ _ _ _ => (pv 4))) pa_nil))))))), ?_⟩
    have ok := hF.ok
    have v12 := ok.v12
    refine s_asgX (ex_fill (ev_var rfl) hF) fun v H1 e1 hv => ?_
    obtain ⟨l, bs, rfl, hl, hfo⟩ := hv
    have hF1 := hF.ex e1
    refine s_asgX (ex_reach (ev_var rfl) (ev_var rfl) hF1 hl hfo) fun v H2 e2 hv => ?_
    obtain ⟨r, rs, rfl, hr', hro⟩ := hv
    have hF2 := hF1.ex e2
    have hl2 := e2 _ _ hl
    refine s_asg (ev_f2 (ev_var rfl) hF2) fun H3 e3 => ?_
    have hF3 := hF2.ex e3
    have hl3 := e3 _ _ hl2
    have hr3 := e3 _ _ hr'
    refine s_retT (et_tupleN (el_lcR (n := F.vs.length) (fun k => match F.vs[k]? with | some x => rs.getD x.plug false && canB x bs | none => false) nV (ea_cons (ev_is (ev_lenT (et_of (ev_var rfl) hF3.h2)) (by rw [List.length_map, List.length_range])) ea_nil) (by omega) (fun k hk H4 e4 => ?_) (fun k _ _ H4 e4 => ev_var rfl))) fun p H5 e5 hp => q p H5 _ (((e1.trans e2).trans e3).trans e5) hp ⟨fun k => ?_, ?_⟩
    · have hx : F.vs[k]? = some F.vs[k] := List.getElem?_eq_getElem hk
      rw [hx]
      have hv := (hF3.ex e4).h3 k _ hx
      have mx := get_mem hx
      have hvar : ∀ {σ : L2.St} {H' : Hp}, Ex H3 H' → σ[3]? = some (some (.ref L.b)) → σ[4]? = some (some (nV k)) → Ev (tOp (rIxT K) (tVar 3) (tVar 4)) σ H' (.ref (L.va k)) := fun e h1 h2 => ev_ixT (ev_var h1) (ev_var h2) (hF3.ex e).h2 (FamAt.at F L hk)
      exact et_and (et_B (ev_bl (ev_var rfl) (ev_v0 (hvar e4 rfl rfl) hv) (e4 _ _ hr3) (by rw [hro.len]; exact ok.pl _ mx))) fun _ => et_B (ev_can (hvar e4 rfl rfl) (ev_var rfl) hv (e4 _ _ hl3) (fun t ht => by rw [hfo.len]; exact ok.sl _ mx t ht) (ok.s3 _ mx))
    · rw [List.mem_filter, List.mem_range]
      constructor
      · rintro ⟨h1, h2⟩
        have hx : F.vs[k]? = some F.vs[k] := List.getElem?_eq_getElem h1
        rw [hx] at h2
        obtain ⟨h3, h4⟩ := Bool.and_eq_true_iff.mp h2
        exact ⟨_, hx, ((hro.iff _).mp h3).2, (hfo.can ok (get_mem hx)).mp h4⟩
      · rintro ⟨x, hx, h3, h4⟩
        refine ⟨get_lt hx, ?_⟩
        rw [hx]
        exact Bool.and_eq_true_iff.mpr ⟨(hro.iff _).mpr ⟨h3.lt ok, h3⟩, (hfo.can ok (get_mem hx)).mpr h4⟩
    · have := List.length_filter_le (fun k => match F.vs[k]? with | some x => rs.getD x.plug false && canB x bs | none => false) (List.range F.vs.length)
      rw [List.length_range] at this
      exact this
/-! ### count_from -/
theorem sc_count_from : FnScope ["variants", "numbers", "total", "variant", "many", "state"] ["variants", "numbers"] (defScope (top 16)) := ⟨rfl, rfl, rfl, by decide +kernel, rfl, by decide +kernel, by decide +kernel⟩
-- slots: 0 variants, 1 numbers, 2 total, 3 variant, 4 many, 5 state

def Small (v : V) : Prop := ∃ n : Int, v = .int n ∧ 0 ≤ n ∧ n ≤ 10 ^ 30 + 1
def spCount : Sp := fun vs H Q _ => ∃ (a d f : Addr) (L : Lay) (F : Fam) (is : List Nat) (g : Nat → Option V) (n : Nat), vs = [.ref a, .ref d] ∧ FamAt H f L F ∧ H a = some (.lst (is.map fun i => .ref (L.va i))) ∧ DkAt H d g n ∧
  (∀ i, i ∈ is → ∃ x, F.vs[i]? = some x ∧ ∀ t, t ∈ x.slots → ∃ v, g t = some v ∧ Small v) ∧ ∀ v H', Ex H H' → Small v → Q v H'
theorem s_min2 {σ : L2.St} {H : Hp} {ta tb : TE} {i j : Int} (ha : Ev ta σ H (.int i)) (hb : Ev tb σ H (.int j)) : Ev (tCB (fun xs H Q => ∃ i j, xs = [.int i, .int j] ∧ Q (.int (if j < i then j else i)) H) (tCons ta (tCons tb tNil))) σ H (.int (if j < i then j else i)) := fun H1 e Q q =>
  ha H1 e _ fun H2 e2 => hb H2 (e.trans e2) _ fun H3 e3 => ⟨i, j, rfl, q H3 (e2.trans e3)⟩
theorem ok_count_from (T : Txt K mg) : Good P w K mg base CX0 1 "count_from" ["variants", "numbers"] spCount := by
  obtain ⟨tM, hMOST_TREES⟩ := T.m_MOST_TREES
  refine Good.of T (j := 7) (i := 16) rfl rfl sc_count_from (fun _ _ _ _ _ _ us hl => match us, hl with | [_, _], _ => rfl) (fun vs H Q E h => ?_) (fun cdv A outer s H vs Q E hr h => ?_)
  · obtain ⟨a, d, f, L, F, is, g, n, rfl, _⟩ := h
    rfl
  · obtain ⟨a, d, f, L, F, is, g, n, rfl, hF, ha, hd, hi, q⟩ := h
    refine ⟨_, (pss_cons (ps_set (i := 2) sc_count_from.nd rfl (.inl rfl) pe_int)
(pss_cons (ps_for PassesOwn.never rfl (pi_list (pv 0)) (pg_name (i := 3) sc_count_from.nd rfl (.inl rfl))
(pss_cons (ps_set (i := 4) sc_count_from.nd rfl (.inl rfl) pe_int)
(pss_cons (ps_for PassesOwn.never rfl (pi_tup (pe_ix ix_tup (pv 3) pe_int (fun _ _ => rfl))) (pg_name (i := 5) sc_count_from.nd rfl (.inl rfl))
(pss_one (ps_set (i := 4) sc_count_from.nd rfl (.inl rfl) (pe_callB (call_min2 rfl) (by rfl) T.m_min (by decide +kernel) (pa_cons (pe_op op_mulW (pv 4) (pe_dget (hu_of hr) (pv 1) (pv 5) (fun _ _ => rfl))) (pa_cons (pe_op op_add (pe_glob (v := .int (10 ^ 30)) rfl hMOST_TREES ⟨_, rfl⟩) pe_int) pa_nil))))))
(pss_one (ps_set (i := 2) sc_count_from.nd rfl (.inl rfl) (pe_callB (call_min2 rfl) (by rfl) T.m_min (by decide +kernel) (pa_cons (pe_op op_add (pv 2) (pv 4)) (pa_cons (pe_op op_add (pe_glob (v := .int (10 ^ 30)) rfl hMOST_TREES ⟨_, rfl⟩) pe_int) pa_nil))))))))
(pss_one (ps_ret (pv 2))))), ?_⟩
    have hM1 : ∀ {σ : L2.St} {H' : Hp}, Ev (tOp (rI0 fun i j => V.int (i + j)) (tC (.int (10 ^ 30))) (tC (.int 1))) σ H' (.int (10 ^ 30 + 1)) := ev_op ev_c ev_c rv_I0
    refine s_asg ev_c fun H1 e1 => ?_
    refine s_forL (ev_var rfl) (SqL.of (e1 _ _ ha)) (fun i σ' H' => ∃ (tot : Int) (y3 y4 y5 : Option V), σ' = [some (.ref a), some (.ref d), some (.int tot), y3, y4, y5] ∧ Ex H H' ∧ 0 ≤ tot ∧ tot ≤ 10 ^ 30 + 1)
      (fun H2 e2 => ⟨0, none, none, none, rfl, e1.trans e2, by omega, by omega⟩) (fun i σ' H' _ hW => SqL.of (by obtain ⟨_, _, _, _, _, z, _⟩ := hW; exact z _ _ ha)) (fun i x σ' H' hx hW => ?_) (fun σ' H' hW => ?_)
    · obtain ⟨tot, y3, y4, y5, rfl, eH, t0, t1⟩ := hW
      obtain ⟨j, hj, rfl⟩ := map_get hx
      obtain ⟨x, hxj, hsl⟩ := hi j (get_mem hj)
      have hv := (hF.ex eH).h3 j x hxj
      refine s_asg ev_c fun H3 e3 => ?_
      have hv3 := hv.ex e3
      refine s_forT (ev_v1 (ev_var rfl) hv3) (SqT.of hv3.hs) (fun i σ' H' => ∃ (m : Int) (y5 : Option V), σ' = [some (.ref a), some (.ref d), some (.int tot), some (.ref (L.va j)), some (.int m), y5] ∧ Ex H H' ∧ 0 ≤ m ∧ m ≤ 10 ^ 30 + 1)
        (fun H4 e4 => ⟨1, y5, rfl, (eH.trans e3).trans e4, by omega, by omega⟩) (fun i σ' H' _ hW => SqT.of (by obtain ⟨_, _, _, z, _⟩ := hW; exact z _ _ (hF.h3 j x hxj).hs)) (fun i y σ' H' hy hW => ?_) (fun σ' H' hW => ?_)
      · obtain ⟨m, y5', rfl, eH', m0, m1⟩ := hW
        obtain ⟨t, ht, rfl⟩ := map_get hy
        obtain ⟨v, hgv, k, rfl, k0, k1⟩ := hsl t (get_mem ht)
        have hmul : CMulW m k := wide_mul (a := 100) (b := 100) (by omega) (by omega) (by decide) (by decide) (by decide)
        have hmk : 0 ≤ m * k := Int.mul_nonneg m0 k0
        refine s_asg (s_min2 (ev_op (ev_var rfl) (ev_dget (s := t) (ev_var rfl) (ev_var rfl) (hd.exx eH') hgv) (rv_I hmul)) hM1) fun H5 e5 => ⟨_, _, rfl, eH'.trans e5, ?_, ?_⟩
        · split <;> omega
        · split <;> omega
      · obtain ⟨m, y5', rfl, eH', m0, m1⟩ := hW
        refine s_asg (s_min2 (ev_op (ev_var rfl) (ev_var rfl) rv_I0) hM1) fun H5 e5 => ⟨_, _, _, _, rfl, eH'.trans e5, ?_, ?_⟩
        · split <;> omega
        · split <;> omega
    · obtain ⟨tot, y3, y4, y5, rfl, eH, t0, t1⟩ := hW
      exact s_ret (ev_var rfl) fun H5 e5 => q _ _ (eH.trans e5) ⟨tot, rfl, t0, t1⟩
end
end S
end

section
set_option Elab.async false
set_option linter.all false
set_option autoImplicit false
set_option maxRecDepth 100000
set_option maxHeartbeats 4000000
namespace S
open PySem PySem.Spec PyProof.Rows L2 Evl
section
variable {P : Program} {w : World} {K : PySem.W.Frag} {mg : Str → Option Value} {base : Heap}
/-! ### finite_counts -/
theorem sc_finite_counts : FnScope ["family", "filled", "state", "fitting", "variant", "numbers", "grows", "slot"] ["family"] (defScope (top 17)) := ⟨rfl, rfl, rfl, by decide +kernel, rfl, by decide +kernel, by decide +kernel⟩
-- slots: 0 family, 1 filled, 2 state, 3 fitting, 4 variant, 5 numbers, 6 grows, 7 slot

structure NumOk (F : Fam) (g : Nat → Option V) : Prop where
  iff : ∀ s, (g s).isSome = true ↔ s < F.cnt ∧ FinS F s
  small : ∀ s v, g s = some v → Small v
def spFinite : Sp := fun vs H Q _ => ∃ (f : Addr) (L : Lay) (F : Fam), vs = [.ref f] ∧ FamAt H f L F ∧ ∀ d H' g, Ex H H' → DkAt H' d g 4 → NumOk F g → Q (.ref d) H'
/-- the variants of the states, by the first i variants -/
structure FitF (F : Fam) (bs : List Bool) (i : Nat) (nss : List (List Nat)) : Prop where
  len : nss.length = F.cnt
  mem : ∀ (s : Nat) (ns : List Nat), nss[s]? = some ns → ∀ j, j ∈ ns ↔ ∃ x, j < i ∧ F.vs[j]? = some x ∧ x.plug = s ∧ canB x bs = true
  small : ∀ (s : Nat) (ns : List Nat), nss[s]? = some ns → ns.length ≤ i
theorem FitF.yes {F : Fam} {bs : List Bool} {i : Nat} {nss : List (List Nat)} (h : FitF F bs i nss) {x : Var} (hx : F.vs[i]? = some x) (hb : canB x bs = true) {ns : List Nat} (hn : nss[x.plug]? = some ns) : FitF F bs (i + 1) (nss.set x.plug (ns ++ [i])) := by
  have hl : x.plug < nss.length := get_lt hn
  refine ⟨by rw [List.length_set]; exact h.len, fun s ms hs j => ?_, fun s ms hs => ?_⟩
  · by_cases e : s = x.plug
    · subst e
      rw [List.getElem?_set_self hl] at hs
      rw [← Option.some.inj hs, List.mem_append, h.mem _ _ hn j, List.mem_singleton]
      constructor
      · rintro (⟨y, h1, h2⟩ | ht)
        · exact ⟨y, by omega, h2⟩
        · subst ht
          exact ⟨x, by omega, hx, rfl, hb⟩
      · rintro ⟨y, h1, h2, h4, h5⟩
        rcases Nat.lt_succ_iff_lt_or_eq.mp h1 with h1 | h1
        · exact .inl ⟨y, h1, h2, h4, h5⟩
        · exact .inr h1
    · rw [List.getElem?_set_ne (fun z => e z.symm)] at hs
      rw [h.mem _ _ hs j]
      constructor
      · rintro ⟨y, h1, h2⟩
        exact ⟨y, by omega, h2⟩
      · rintro ⟨y, h1, h2, h4, h5⟩
        rcases Nat.lt_succ_iff_lt_or_eq.mp h1 with h1 | h1
        · exact ⟨y, h1, h2, h4, h5⟩
        · subst h1
          rw [hx] at h2
          rw [← Option.some.inj h2] at h4
          exact absurd h4.symm e
  · by_cases e : s = x.plug
    · subst e
      rw [List.getElem?_set_self hl] at hs
      rw [← Option.some.inj hs, List.length_append]
      have := h.small _ _ hn
      show ns.length + 1 ≤ i + 1
      omega
    · rw [List.getElem?_set_ne (fun z => e z.symm)] at hs
      have := h.small _ _ hs
      omega
theorem FitF.no {F : Fam} {bs : List Bool} {i : Nat} {nss : List (List Nat)} (h : FitF F bs i nss) {x : Var} (hx : F.vs[i]? = some x) (hb : canB x bs = false) : FitF F bs (i + 1) nss := by
  refine ⟨h.len, fun s ms hs j => ?_, fun s ms hs => by have := h.small _ _ hs; omega⟩
  rw [h.mem _ _ hs j]
  constructor
  · rintro ⟨y, h1, h2⟩
    exact ⟨y, by omega, h2⟩
  · rintro ⟨y, h1, h2, h4, h5⟩
    rcases Nat.lt_succ_iff_lt_or_eq.mp h1 with h1 | h1
    · exact ⟨y, h1, h2, h4, h5⟩
    · subst h1
      rw [hx] at h2
      rw [← Option.some.inj h2, hb] at h5
      cases h5
theorem fl_len {α : Type} {m : Nat} {f : α → List V} : ∀ {l : List α}, (∀ a ∈ l, (f a).length ≤ m) → (l.flatMap f).length ≤ l.length * m
  | [], _ => Nat.zero_le _
  | a :: r, h => by
    rw [List.flatMap_cons, List.length_append, List.length_cons, Nat.succ_mul]
    have h1 := h a List.mem_cons_self
    have h2 := fl_len (l := r) fun b hb => h b (List.mem_cons_of_mem _ hb)
    omega
theorem flat_bools {α β : Type} (l : List α) (f : α → List β) (h : β → Bool) : (l.flatMap fun a => (f a).map fun b => V.bl (h b)) = (l.flatMap fun a => (f a).map h).map V.bl := by
  induction l with
  | nil => rfl
  | cons a r ih => rw [List.flatMap_cons, List.flatMap_cons, List.map_append, ih, List.map_map] <;> rfl
theorem ok_finite_counts (T : Txt K mg) : Good P w K mg base CX0 3 "finite_counts" ["family"] spFinite := by
  have G_can_be_filled : Good P w K mg base CX0 2 "can_be_filled" ["variant", "filled"] spCan := (ok_can_be_filled T).mono (by decide)
  have G_fill : Good P w K mg base CX0 2 "fill" ["family"] spFill := ok_fill T
  have G_count_from : Good P w K mg base CX0 2 "count_from" ["variants", "numbers"] spCount := (ok_count_from T).mono (by decide)
  refine Good.of T (j := 8) (i := 17) rfl rfl sc_finite_counts (fun _ _ _ _ _ _ us hl => match us, hl with | [_], _ => rfl) (fun vs H Q E h => ?_) (fun cdv A outer s H vs Q E hr h => ?_)
  · obtain ⟨f, L, F, rfl, _⟩ := h
    rfl
  · obtain ⟨f, L, F, rfl, hF, q⟩ := h
    refine ⟨_, (pss_cons (ps_set (i := 1) sc_finite_counts.nd rfl (.inl rfl) (pe_c G_fill hr (pa_cons (pv 0) pa_nil)))
(pss_cons (ps_setLc (i := 3) (own := [("state", 2)]) rfl sc_finite_counts.nd rfl rfl (sw_true rfl rfl rfl (by decide +kernel)) (pi_range1 (by rfl) T.m_range (pa_cons (pe_ix ix_tup (pv 0) pe_int (fun _ _ => rfl)) pa_nil)) (blkOk_by (own := [("state", 2)]) (N := ["family", "filled", "state", "fitting", "variant", "numbers", "grows", "slot"]) (sc := defScope (top 17)) (by decide +kernel)) (fun _ _ _ _ _ => (pg_name (i := 2) sc_finite_counts.nd rfl (.inl rfl))) (fun _ _ _ _ _ => pts_nil) (fun _ _ _ _ _ => (pe_lst pa_nil)))
(pss_cons (ps_for PassesOwn.never rfl (pi_tup (pe_ix ix_tup (pv 0) pe_int (fun _ _ => rfl))) (pg_name (i := 4) sc_finite_counts.nd rfl (.inl rfl))
(pss_one (ps_if (pt_val (pe_c G_can_be_filled hr (pa_cons (pv 4) (pa_cons (pv 1) pa_nil))))
(pss_one (ps_expr (pe_bm PySem.F.plainAttrs_list PySem.F.slot_list_append PySem.F.type_list_append mt_append (pe_ix ix_list (pv 3) (pe_ix ix_tup (pv 4) pe_int (fun _ _ => rfl)) (fun _ _ => rfl)) (pa_cons (pv 4) pa_nil)))) pss_nil)))
(pss_cons (ps_set (i := 5) sc_finite_counts.nd rfl (.inr rfl) pe_dnewK)
(pss_cons (ps_set (i := 6) sc_finite_counts.nd rfl (.inl rfl) pe_bl)
(pss_cons (ps_while PassesOwn.never (pt_val (pv 6))
(pss_cons (ps_set (i := 6) sc_finite_counts.nd rfl (.inl rfl) pe_bl)
(pss_one (ps_for PassesOwn.never rfl (pi_range1 (by rfl) T.m_range (pa_cons (pe_ix ix_tup (pv 0) pe_int (fun _ _ => rfl)) pa_nil)) (pg_name (i := 2) sc_finite_counts.nd rfl (.inl rfl))
(pss_one (ps_if (PW.pt (pw_and (pt_cmp (pc_dnotin (hu_of hr) (pv 2) (pv 5))) (pw_and1 (pt_val (pe_callB (cr_all rfl) (by rfl) T.m_all (by decide +kernel) (pa_cons (pe_lc2 (own := [("variant", 4), ("slot", 7)]) (vs1 := [7]) rfl sc_finite_counts.nd (pi_list (pe_ix ix_list (pv 3) (pv 2) (fun _ _ => rfl))) (blkOk_by (own := [("variant", 4), ("slot", 7)]) (N := ["family", "filled", "state", "fitting", "variant", "numbers", "grows", "slot"]) (sc := defScope (top 17)) (by decide +kernel)) (by decide) (fun _ _ _ _ _ => (pg_name (i := 4) sc_finite_counts.nd rfl (.inl rfl))) (fun _ _ _ _ _ => pts_nil) (fun _ _ _ _ _ => (k_piT (K := K) rfl (pe_ix (k_ixT (K := K) rfl) (pv 4) pe_int (fun _ _ => rfl)))) (fun _ _ _ _ _ => (pg_name (i := 7) sc_finite_counts.nd rfl (.inl rfl))) (fun _ _ _ _ _ => pts_nil) (fun _ _ _ _ _ => (pe_cmp (pc_din (hu_of hr) (pv 7) (pv 5))))) pa_nil))))))
(pss_cons (ps_dput (hu_of hr) (pv 5) (pv 2) (pe_c G_count_from hr (pa_cons (pe_ix ix_list (pv 3) (pv 2) (fun _ _ => rfl)) (pa_cons (pv 5) pa_nil))) rfl)
(pss_one (ps_set (i := 6) sc_finite_counts.nd rfl (.inl rfl) pe_bl))) pss_nil))))))
(pss_one (ps_ret (pv 5))))))))), ?_⟩
    have ok := hF.ok
    have c4 := ok.c4
    have v12 := ok.v12
    refine s_asgX (ex_fill (ev_var rfl) hF) fun v H1 e1 hv => ?_
    obtain ⟨l, bs, rfl, hl, hfo⟩ := hv
    have hF1 := hF.ex e1
    refine s_lists (n := F.cnt) (xs := []) (ea_cons (ev_f0 (ev_var rfl) hF1) ea_nil) (by omega) (fun a _ H2 _ => el_lst ea_nil (by decide)) fun b H2 ps e2 nb pl hb2 npf => ?_
    have hF2 := hF1.ex e2
    have hl2 := e2 _ _ hl
    refine s_forT (ev_f2 (ev_var rfl) hF2) (SqT.of hF2.h2) (fun i σ' H' => ∃ (nss : List (List Nat)) (y4 : Option V), σ' = [some (.ref f), some (.ref l), none, some (.ref b), y4, none, none, none] ∧ Ex H1 H' ∧ LsAt H' b ps (nss.map (·.map fun i => V.ref (L.va i))) ∧ FitF F bs i nss)
      (fun H3 e3 => ⟨List.replicate F.cnt [], none, rfl, e2.trans e3, by rw [List.map_replicate]; exact hb2.ex e3, List.length_replicate, fun s ns hs j => ?_, fun s ns hs => ?_⟩)
      (fun i σ' H' _ hW => SqT.of (hF1.ex (by obtain ⟨_, _, _, z, _⟩ := hW; exact z)).h2) (fun i x σ' H' hi hW => ?_) (fun σ' H' hW => ?_)
    · rw [List.getElem?_replicate] at hs
      split at hs
      · rw [← Option.some.inj hs]
        exact ⟨fun z => absurd z List.not_mem_nil, fun ⟨_, z, _⟩ => absurd z (Nat.not_lt_zero _)⟩
      · cases hs
    · rw [List.getElem?_replicate] at hs
      split at hs
      · rw [← Option.some.inj hs]
        exact Nat.zero_le _
      · cases hs
    · obtain ⟨nss, y4, rfl, eH, hls, hB⟩ := hW
      obtain ⟨x, hx, rfl⟩ := FamAt.vs F L hi
      have hv := (hF1.ex eH).h3 i x hx
      have mx := get_mem hx
      have lil := get_lt hx
      have lp : x.plug < nss.length := by rw [hB.len]; exact ok.pl x mx
      have ls : ∀ t ∈ x.slots, t < bs.length := fun t ht => by rw [hfo.len]; exact ok.sl x mx t ht
      have hget : nss[x.plug]? = some nss[x.plug] := List.getElem?_eq_getElem lp
      have hsm := hB.small _ _ hget
      obtain ⟨r, hr1, hr2⟩ := hls.at (get_map hget)
      refine s_if (et_B (ev_can (ev_var rfl) (ev_var rfl) hv (eH _ _ hl) ls (ok.s3 x mx))) (fun hb H5 e5 => ?_) (fun hb H5 e5 => ?_)
      · refine s_appE (e5 _ _ hr2) (ev_ls (ev_var rfl) (ev_v0 (ev_var rfl) (hv.ex e5)) (hls.ex e5) hr1) (ev_var rfl) (by rw [List.length_map]; omega) fun H6 e6 => ?_
        refine ⟨nss.set x.plug (nss[x.plug] ++ [i]), _, rfl, Ex.mut (eH.trans (e5.trans e6)) (npf r (get_mem hr1)), ?_, hB.yes hx hb hget⟩
        rw [List.map_set, List.map_append]
        exact (hls.ex (e5.trans e6)).upd hr1
      · exact ⟨nss, _, rfl, eH.trans e5, hls.ex e5, hB.no hx hb⟩
    · obtain ⟨nss, y4, rfl, eH, hls, hB⟩ := hW
      rw [List.length_map, List.length_range] at hB
      have hcan : ∀ s ns, nss[s]? = some ns → ∀ j, j ∈ ns ↔ ∃ x, F.vs[j]? = some x ∧ x.plug = s ∧ Can F x := fun s ns hs j => by
        rw [hB.mem s ns hs j]
        constructor
        · rintro ⟨x, _, h2, h4, h5⟩
          exact ⟨x, h2, h4, (hfo.can ok (get_mem h2)).mp h5⟩
        · rintro ⟨x, h2, h4, h5⟩
          exact ⟨x, get_lt h2, h2, h4, (hfo.can ok (get_mem h2)).mpr h5⟩
      have eHH := e1.trans eH
      refine s_dnew fun d nd hd => ?_
      have eHd : Ex H (upd H' d (.dK [])) := Ex.mut eHH (fresh_back eHH nd)
      have ndH := fresh_back eHH nd
      have db : b ≠ d := fun z => by rw [← z, hls.h] at nd; cases nd
      have dps : d ∉ ps := fun z => by
        obtain ⟨i, hi⟩ := List.getElem?_of_mem z
        have hil : i < (nss.map (·.map fun i => V.ref (L.va i))).length := by rw [← hls.len]; exact get_lt hi
        have := hls.each i d _ hi (List.getElem?_eq_getElem hil)
        rw [nd] at this
        cases this
      have hlsd := hls.other (o := .dK []) (fun z => db z.symm) dps
      generalize upd H' d (.dK []) = Hd at *
      refine s_asg ev_c fun H3 e3 => ?_
      refine s_while (fun m σ' H' => ∃ (g : Nat → Option V) (n : Nat) (gr : Bool) (y2 : Option V), σ' = [some (.ref f), some (.ref l), y2, some (.ref b), y4, some (.ref d), some (.bl gr), none] ∧ Ex H H' ∧ LsAt H' b ps (nss.map (·.map fun i => V.ref (L.va i))) ∧ DkAt H' d g n ∧ n + cN F.cnt g ≤ F.cnt ∧
          (∀ s v, g s = some v → s < F.cnt ∧ FinS F s ∧ Small v) ∧ (gr = false → ∀ s, s < F.cnt → g s = none → ∃ x, x ∈ F.vs ∧ x.plug = s ∧ Can F x ∧ ∃ t, t ∈ x.slots ∧ g t = none) ∧ m = cN F.cnt g + (if gr then 1 else 0)) _
        ⟨fun _ => none, 0, true, none, rfl, eHd.trans e3, hlsd.ex e3, hd.exx e3, by have := cN_le F.cnt (fun _ => (none : Option V)); omega, (fun s v z => nomatch z), (fun z => nomatch z), rfl⟩ (fun m σ' H' hW => ?_)
      obtain ⟨g, n, gr, y2, rfl, eH', hls', hd', hn, hg, hgr, rfl⟩ := hW
      refine ⟨gr, et_B (ev_var rfl), fun hgt H5 e5 => ⟨_, fun σ2 H2 z => z, ?_⟩, fun hgt H5 e5 => ?_⟩
      · subst hgt
        refine s_asg ev_c fun H6 e6 => ?_
        have e56 := e5.trans e6
        refine s_forR1 (n := (F.cnt : Int)) (ea_cons (ev_f0 (ev_var rfl) (hF.ex (eH'.trans e56))) ea_nil) (by omega) (fun i σ' H' => ∃ (g' : Nat → Option V) (n' : Nat) (gr : Bool) (y2 : Option V), σ' = [some (.ref f), some (.ref l), y2, some (.ref b), y4, some (.ref d), some (.bl gr), none] ∧ Ex H H' ∧ LsAt H' b ps (nss.map (·.map fun i => V.ref (L.va i))) ∧ DkAt H' d g' n' ∧ n' + cN F.cnt g' ≤ F.cnt ∧
            (∀ s v, g' s = some v → s < F.cnt ∧ FinS F s ∧ Small v) ∧ (gr = false → g' = g ∧ ∀ s, s < i → g s = none → ∃ x, x ∈ F.vs ∧ x.plug = s ∧ Can F x ∧ ∃ t, t ∈ x.slots ∧ g t = none) ∧ (gr = true → cN F.cnt g' < cN F.cnt g))
          (fun H7 e7 => ⟨g, n, false, y2, rfl, (eH'.trans e56).trans e7, hls'.ex (e56.trans e7), hd'.exx (e56.trans e7), hn, hg, fun _ => ⟨rfl, fun s hs => absurd hs (Nat.not_lt_zero _)⟩, (fun z => nomatch z)⟩)
          (fun i σ' H7 hi hW => ?_) (fun σ' H7 hW => ?_)
        · obtain ⟨g', n', gr, y2, rfl, eH7, hls7, hd7, hn7, hg7, hf7, ht7⟩ := hW
          have hic : i < F.cnt := by omega
          have hin : i < nss.length := by rw [hB.len]; exact hic
          have hget : nss[i]? = some nss[i] := List.getElem?_eq_getElem hin
          have hsm := hB.small _ _ hget
          obtain ⟨r, hr1, hr2⟩ := hls7.at (get_map hget)
          let sl : Nat → List Nat := fun j => match F.vs[j]? with | some x => x.slots | none => []
          have hsl : ∀ j x, F.vs[j]? = some x → sl j = x.slots := fun j x hx => by show (match F.vs[j]? with | some x => x.slots | none => []) = _; rw [hx]
          refine s_if (b := !(g' i).isSome && (nss[i].flatMap fun j => (sl j).map fun t => (g' t).isSome).all id) (et_and (et_B (ev_dnotin (s := i) (ev_var rfl) (ev_var rfl) hd7)) fun _ => et_B (ev_allN ?_)) (fun hb H8 e8 => ?_) (fun hb H8 e8 => ?_)
          · rw [← flat_bools]
            refine el_lc2 (nss[i]) (fun j => V.ref (L.va j)) sl nV (fun _ t => V.bl (g' t).isSome) (ev_ls (ev_var rfl) (ev_var rfl) hls7 hr1) hr2 ?_ (fun j hj H9 e9 => ?_) (fun j hj t ht H9 e9 => ev_din (s := t) (ev_var rfl) (ev_var rfl) (hd7.exx e9))
            · have := fl_len (l := nss[i]) (f := fun j => (sl j).map fun t => V.bl (g' t).isSome) (m := 3) fun j hj => by
                rw [List.length_map]
                obtain ⟨x, hx, _⟩ := (hcan _ _ hget j).mp hj
                rw [hsl j x hx]
                exact ok.s3 x (get_mem hx)
              omega
            · obtain ⟨x, hx, _⟩ := (hcan _ _ hget j).mp hj
              rw [hsl j x hx]
              have hv := ((hF.ex eH7).ex e9).h3 j x hx
              exact et_of (ev_v1 (ev_var rfl) hv) hv.hs
          · obtain ⟨b1, b2⟩ := Bool.and_eq_true_iff.mp hb
            have hgi : g' i = none := by
              cases z : g' i with
              | none => rfl
              | some v => rw [z] at b1; cases b1
            have hall : ∀ j, j ∈ nss[i] → ∀ x, F.vs[j]? = some x → ∀ t, t ∈ x.slots → (g' t).isSome = true := fun j hj x hx t ht =>
              List.all_eq_true.mp b2 _ (List.mem_flatMap.mpr ⟨j, hj, List.mem_map.mpr ⟨t, by rw [hsl j x hx]; exact ht, rfl⟩⟩)
            refine s_dputX (P := fun v _ => Small v) (s := i) (hd7.exx e8) (ex_call (ea_cons (ev_ls (i := i) (ev_var rfl) (ev_var rfl) (hls7.ex e8) hr1) (ea_cons (ev_var rfl) ea_nil)) fun H9 e9 Q q E => ⟨r, d, f, L, F, nss[i], g', n', rfl, (hF.ex eH7).ex (e8.trans e9), (e8.trans e9) _ _ hr2, hd7.exx (e8.trans e9), fun j hj => ?_, fun v H' e' hv => q v H' e' hv⟩)
              (ev_var rfl) (ev_var rfl) (by omega) (fun v H9 kvs e9 hv hd9 => ?_) (fun _ _ _ _ z => z)
            · obtain ⟨x, hx, _⟩ := (hcan _ _ hget j).mp hj
              refine ⟨x, hx, fun t ht => ?_⟩
              have := hall j hj x hx t ht
              cases z : g' t with
              | none => rw [z] at this; cases this
              | some v => exact ⟨v, rfl, (hg7 t v z).2.2⟩
            · have hcn := cN_put (g' := dPut g' i v) hic hgi (by rw [dPut_same] <;> rfl) (fun t ht => dPut_ne ht)
              refine s_asg ev_c fun Ha ea => ⟨dPut g' i v, n' + 1, true, _, rfl, (Ex.mut (eH7.trans (e8.trans e9)) ndH).trans ea, ((hls7.ex (e8.trans e9)).other (fun z => db z.symm) dps).ex ea, hd9.exx ea, by omega, fun s u hsu => ?_, (fun z => nomatch z), fun _ => ?_⟩
              · by_cases es : s = i
                · subst es
                  rw [dPut_same] at hsu
                  rw [← Option.some.inj hsu]
                  refine ⟨hic, .mk fun x hx hp hc t ht => ?_, hv⟩
                  obtain ⟨j, hj⟩ := List.getElem?_of_mem hx
                  have := hall j ((hcan _ _ hget j).mpr ⟨x, hj, hp, hc⟩) x hj t ht
                  cases z : g' t with
                  | none => rw [z] at this; cases this
                  | some v => exact (hg7 t v z).2.1
                · rw [dPut_ne es] at hsu
                  exact hg7 s u hsu
              · cases gr with
                | true => have := ht7 rfl; omega
                | false => rw [← (hf7 rfl).1]; omega
          · refine ⟨g', n', gr, _, rfl, eH7.trans e8, hls7.ex e8, hd7.exx e8, hn7, hg7, fun z => ?_, ht7⟩
            obtain ⟨eg, hall⟩ := hf7 z
            subst eg
            refine ⟨rfl, fun s hs hgs => ?_⟩
            rcases Nat.lt_succ_iff_lt_or_eq.mp hs with hs | hs
            · exact hall s hs hgs
            · subst hs
              rw [hgs] at hb
              have hb2 : (nss[s].flatMap fun j => (sl j).map fun t => (g' t).isSome).all id = false := by simpa using hb
              have : ∃ c, c ∈ (nss[s].flatMap fun j => (sl j).map fun t => (g' t).isSome) ∧ c = false := by
                refine Classical.byContradiction fun hn => ?_
                have : (nss[s].flatMap fun j => (sl j).map fun t => (g' t).isSome).all id = true := List.all_eq_true.mpr fun c hc => by
                  cases c with
                  | true => rfl
                  | false => exact absurd ⟨false, hc, rfl⟩ hn
                rw [this] at hb2
                cases hb2
              obtain ⟨c, hc, rfl⟩ := this
              obtain ⟨j, hj, hc⟩ := List.mem_flatMap.mp hc
              obtain ⟨t, ht, hc⟩ := List.mem_map.mp hc
              obtain ⟨x, hx, hp, hcx⟩ := (hcan _ _ hget j).mp hj
              rw [hsl j x hx] at ht
              refine ⟨x, get_mem hx, hp, hcx, t, ht, ?_⟩
              cases z : g' t with
              | none => rfl
              | some v => rw [z] at hc; cases hc
        · obtain ⟨g', n', gr, y2, rfl, eH7, hls7, hd7, hn7, hg7, hf7, ht7⟩ := hW
          refine ⟨cN F.cnt g' + (if gr then 1 else 0), ?_, g', n', gr, y2, rfl, eH7, hls7, hd7, hn7, hg7, fun z s hs hgs => ?_, rfl⟩
          · cases gr with
            | true => have := ht7 rfl; show cN F.cnt g' + 1 < cN F.cnt g + 1; omega
            | false => rw [(hf7 rfl).1]; show cN F.cnt g + 0 < cN F.cnt g + 1; omega
          · obtain ⟨eg, hall⟩ := hf7 z
            subst eg
            exact hall s (by rw [Int.toNat_natCast]; exact hs) hgs
      · subst hgt
        refine s_ret (ev_var rfl) fun H6 e6 => q d H6 g (eH'.trans (e5.trans e6)) ?_ ⟨fun s => ⟨fun hs => ?_, fun ⟨h1, h2⟩ => ?_⟩, fun s v hs => (hg s v hs).2.2⟩
        · obtain ⟨kvs, k1, k2, k3⟩ := (hd'.exx (e5.trans e6)).ex
          exact ⟨kvs, k1, by omega, k3⟩
        · cases z : g s with
          | none => rw [z] at hs; cases hs
          | some v => exact ⟨(hg s v z).1, (hg s v z).2.1⟩
        · refine fin_end ok (A := fun s => (g s).isSome = true) (fun t ht hn => ?_) s h2 h1
          have hgt : g t = none := by
            cases z : g t with
            | none => rfl
            | some v => rw [z] at hn; exact absurd rfl hn
          obtain ⟨x, hx, hp, hc, u, hu, hgu⟩ := hgr rfl t ht hgt
          exact ⟨x, hx, hp, hc, u, hu, by rw [hgu]; exact Bool.false_ne_true⟩
end
end S
end

section
set_option Elab.async false
set_option linter.all false
set_option autoImplicit false
set_option maxRecDepth 100000
set_option maxHeartbeats 4000000
namespace S
open PySem PySem.Spec PyProof.Rows L2 Evl
section
variable {P : Program} {w : World} {K : PySem.W.Frag} {mg : Str → Option Value} {base : Heap}
/-! ### checked -/
theorem sc_checked : FnScope ["many"] ["many"] (defScope (top 18)) := ⟨rfl, rfl, rfl, by decide +kernel, rfl, by decide +kernel, by decide +kernel⟩
-- slots: 0 many

def spChecked (K : PySem.W.Frag) : Sp := fun vs H Q E => ∃ n : Int, vs = [.int n] ∧ ∀ H', Ex H H' → Q (.int n) H' ∧ E (.ref (He.ga K "TooManyTrees")) none H'
theorem ok_checked (T : Txt K mg) : Good P w K mg base (L2.CX P w) 1 "checked" ["many"] (spChecked K) := by
  obtain ⟨tM, hMOST_TREES⟩ := T.m_MOST_TREES
  refine Good.ofX T (j := 9) (i := 18) rfl rfl sc_checked (fun _ _ _ _ _ _ us hl => match us, hl with | [_], _ => rfl) (fun vs H Q E h => ?_) (fun cdv A outer s H vs Q E hr h => ?_)
  · obtain ⟨n, rfl, _⟩ := h
    rfl
  · obtain ⟨n, rfl, q⟩ := h
    refine ⟨_, (pss_cons (ps_if (pt_cmpR op_gt (pv 0) (pe_glob (v := .int (10 ^ 30)) rfl hMOST_TREES ⟨_, rfl⟩) (nomark _))
(pss_one (ps_raise rfl (takes_of rfl rfl rfl rfl) (pmk_own PySem.F.excBase_ValueError T.tt.1 (T.glo _ hTT) T.tt.2.1 (raises_own T.tt.2.2.1 T.tt.2.2.2) (by exact rfl)))) pss_nil)
(pss_one (ps_ret (pv 0)))), ?_⟩
    refine s_if (b := decide ((10 ^ 30 : Int) < n)) (et_test (ev_op (ev_var rfl) ev_c rv_I0)) (fun hb H1 e1 => (q H1 e1).2) (fun hb H1 e1 => ?_)
    exact s_ret (ev_var rfl) fun H2 e2 => (q H2 (e1.trans e2)).1
/-! ### product_count -/
theorem sc_product_count : FnScope ["family", "numbers", "root"] ["family"] (defScope (top 19)) := ⟨rfl, rfl, rfl, by decide +kernel, rfl, by decide +kernel, by decide +kernel⟩
-- slots: 0 family, 1 numbers, 2 root

def spPC (K : PySem.W.Frag) : Sp := fun vs H Q E => ∃ (f : Addr) (L : Lay) (F : Fam), vs = [.ref f] ∧ FamAt H f L F ∧ ∀ H', Ex H H' → ((∃ r, r ∈ F.roots ∧ ¬ FinS F r) → Q .non H') ∧ ((∀ r, r ∈ F.roots → FinS F r) → (∀ n : Int, Q (.int n) H') ∧ E (.ref (He.ga K "TooManyTrees")) none H')
theorem ex_finite {σ : L2.St} {H : Hp} {ta : TE} {f : Addr} {L : Lay} {F : Fam} (ha : Ev ta σ H (.ref f)) (hF : FamAt H f L F) :
    EX (tCall spFinite [] E0 (tCons ta tNil)) σ H (fun v H' => ∃ d g, v = .ref d ∧ DkAt H' d g 4 ∧ NumOk F g) :=
  ex_call (ea_cons ha ea_nil) fun H1 e Q q E => ⟨f, L, F, rfl, hF.ex e, fun d H' g e' hd ho => q _ _ e' ⟨d, g, rfl, hd, ho⟩⟩
/-- all([root in numbers for root in family[1]]) -/
theorem ev_roots {σ : L2.St} {H : Hp} {d : Addr} {F : Fam} {g : Nat → Option V} {n j : Nat} {tl td ty : TE} {vs : List Nat} (ht : ET tl σ H (F.roots.map nV)) (hF : F.Ok) (hd : DkAt H d g n) (hN : NumOk F g)
    (h1 : ∀ x H1, Ev td ((wipe σ vs).set j (some x)) H1 (.ref d)) (h2 : ∀ x H1, Ev ty ((wipe σ vs).set j (some x)) H1 x) (hw : ∀ x, wipe ((wipe σ vs).set j (some x)) vs = wipe σ vs := by intro _; rfl) :
    ∃ b : Bool, (b = true ↔ ∀ r, r ∈ F.roots → FinS F r) ∧ Ev (tCB (rAll K) (tCons (tLc (iTup K tl) (gName j) tYes (tDIn ty td) vs) tNil)) σ H (.bl b) := by
  refine ⟨(F.roots.map fun r => (g r).isSome).all id, ?_, ev_allN ?_⟩
  · rw [List.all_eq_true]
    constructor
    · intro h r hr
      exact ((hN.iff r).mp (h _ (List.mem_map_of_mem hr))).2
    · intro h b hb
      obtain ⟨r, hr, rfl⟩ := List.mem_map.mp hb
      exact (hN.iff r).mpr ⟨hF.rl r hr, h r hr⟩
  · rw [List.map_map]
    have z := el_lcT (K := K) (σ := σ) (H := H) (tl := tl) (te := tDIn ty td) (t := tYes) (j := j) (vs := vs) F.roots nV (fun _ => true) (fun r => V.bl (g r).isSome) ht (by have := nodup_le hF.rn hF.rl; have := hF.c4; omega)
      (fun _ _ _ _ => et_yes) (fun r hr _ H1 e => ev_din (h2 _ _) (h1 _ _) (hd.exx e)) hw
    rw [filter_true] at z
    exact z
theorem ok_product_count (T : Txt K mg) : Good P w K mg base (L2.CX P w) 4 "product_count" ["family"] (spPC K) := by
  have G_finite_counts : Good P w K mg base CX0 3 "finite_counts" ["family"] spFinite := ok_finite_counts T
  have G_checked : Good P w K mg base (L2.CX P w) 3 "checked" ["many"] (spChecked K) := (ok_checked T).mono (by decide)
  refine Good.ofX T (j := 10) (i := 19) rfl rfl sc_product_count (fun _ _ _ _ _ _ us hl => match us, hl with | [_], _ => rfl) (fun vs H Q E h => ?_) (fun cdv A outer s H vs Q E hr h => ?_)
  · obtain ⟨f, L, F, rfl, _⟩ := h
    rfl
  · obtain ⟨f, L, F, rfl, hF, q⟩ := h
    refine ⟨_, (pss_cons (ps_set (i := 1) sc_product_count.nd rfl (.inr rfl) (pe_c G_finite_counts hr (pa_cons (pv 0) pa_nil)))
(pss_cons (ps_if (pt_not (pt_val (pe_callB (cr_all rfl) (by rfl) T.m_all (by decide +kernel) (pa_cons (pe_lc (own := [("root", 2)]) rfl sc_product_count.nd (pi_tup (pe_ix ix_tup (pv 0) pe_int (fun _ _ => rfl))) (blkOk_by (own := [("root", 2)]) (N := ["family", "numbers", "root"]) (sc := defScope (top 19)) (by decide +kernel)) (fun _ _ _ _ _ => (pg_name (i := 2) sc_product_count.nd rfl (.inl rfl))) (fun _ _ _ _ _ => pts_nil) (fun _ _ _ _ _ => (pe_cmp (pc_din (hu_of hr) (pv 2) (pv 1))))) pa_nil))))
(pss_one (ps_ret pe_non)) pss_nil)
(pss_one (ps_ret (pe_cX G_checked hr (passes_call (takes_of rfl rfl rfl rfl) (fun _ _ _ _ h => h)) (pa_cons (pe_callB (cr_sum rfl) (by rfl) T.m_sum (by decide +kernel) (pa_cons (pe_lc (own := [("root", 2)]) rfl sc_product_count.nd (pi_tup (pe_ix ix_tup (pv 0) pe_int (fun _ _ => rfl))) (blkOk_by (own := [("root", 2)]) (N := ["family", "numbers", "root"]) (sc := defScope (top 19)) (by decide +kernel)) (fun _ _ _ _ _ => (pg_name (i := 2) sc_product_count.nd rfl (.inl rfl))) (fun _ _ _ _ _ => pts_nil) (fun _ _ _ _ _ => (pe_dget (hu_of hr) (pv 1) (pv 2) (fun _ _ => rfl)))) pa_nil)) pa_nil)))))), ?_⟩
    have ok := hF.ok
    refine s_asgX (ex_finite (ev_var rfl) hF) fun v H1 e1 hv => ?_
    obtain ⟨d, g, rfl, hd, hN⟩ := hv
    have hF1 := hF.ex e1
    obtain ⟨b, hb, hev⟩ := ev_roots (K := K) (σ := [some (.ref f), some (.ref d), none]) (H := H1) (j := 2) (vs := [2]) (td := tVar 1) (ty := tVar 2) (tl := tOp (rIxT K) (tVar 0) (tC (.int 1))) (et_of (ev_f1 (ev_var rfl) hF1) hF1.h1) ok hd hN (fun _ _ => ev_var rfl) (fun _ _ => ev_var rfl)
    refine s_if (b := !b) (et_not (et_B hev)) (fun hn H2 e2 => ?_) (fun hn H2 e2 => ?_)
    · refine s_ret ev_c fun H3 e3 => (q H3 ((e1.trans e2).trans e3)).1 ?_
      refine Classical.byContradiction fun hc => ?_
      have : b = true := hb.mpr fun r hr => Classical.byContradiction fun hr2 => hc ⟨r, hr, hr2⟩
      rw [this] at hn
      cases hn
    · have hbt : b = true := by simpa using hn
      have hall := hb.mp hbt
      have hF2 := hF1.ex e2
      let gi : Nat → Int := fun r => match g r with | some (.int n) => n | _ => 0
      have hgi : ∀ r, r ∈ F.roots → g r = some (.int (gi r)) := fun r hr => by
        have h1 := (hN.iff r).mpr ⟨ok.rl r hr, hall r hr⟩
        cases z : g r with
        | none => rw [z] at h1; cases h1
        | some v =>
          obtain ⟨n, rfl, _⟩ := hN.small r v z
          show some (V.int n) = some (V.int (match g r with | some (.int n) => n | _ => 0))
          rw [z]
      have key : Ev (tCB (rSum K) (tCons (tLc (iTup K (tOp (rIxT K) (tVar 0) (tC (.int 1)))) (gName 2) tYes (tDGet (tVar 1) (tVar 2)) [2]) tNil)) [some (.ref f), some (.ref d), none] H2 (.int ((F.roots.map gi).sum)) := by
        refine ev_sumN ?_
        rw [List.map_map]
        have z := el_lcT (K := K) (σ := [some (.ref f), some (.ref d), none]) (H := H2) (tl := tOp (rIxT K) (tVar 0) (tC (.int 1))) (te := tDGet (tVar 1) (tVar 2)) (t := tYes) (j := 2) (vs := [2]) F.roots nV (fun _ => true) (fun r => V.int (gi r)) (et_of (ev_f1 (ev_var rfl) hF2) hF2.h1) (by have := nodup_le ok.rn ok.rl; have := ok.c4; omega)
          (fun _ _ _ _ => et_yes) (fun r hr _ H1 e => ev_dget (s := r) (ev_var rfl) (ev_var rfl) ((hd.exx e2).exx e) (hgi r hr))
        rw [filter_true] at z
        exact z
      refine key H2 (Ex.refl H2) _ fun H3 e3 => ⟨_, rfl, fun H4 e4 => ?_⟩
      have q4 := (q H4 (((e1.trans e2).trans e3).trans e4)).2 hall
      exact ⟨q4.1 _, q4.2⟩
/-! ### _law_endless -/
theorem sc_law_endless : FnScope ["_law_family_here"] ["_law_family_here"] (defScope (top 56)) := ⟨rfl, rfl, rfl, by decide +kernel, rfl, by decide +kernel, by decide +kernel⟩
-- slots: 0 _law_family_here

def spEndless : Sp := fun vs H Q _ => ∃ (f : Addr) (L : Lay) (F : Fam), vs = [.ref f] ∧ FamAt H f L F ∧ ∀ H' (b : Bool), Ex H H' → (b = true ↔ ∃ r, r ∈ F.roots ∧ ¬ FinS F r) → Q (.bl b) H'
theorem ok_law_endless (T : Txt K mg) : Good P w K mg base CX0 5 "_law_endless" ["_law_family_here"] spEndless := by
  have G_product_count : Good P w K mg base (L2.CX P w) 4 "product_count" ["family"] (spPC K) := ok_product_count T
  refine Good.of T (j := 42) (i := 56) rfl rfl sc_law_endless (fun _ _ _ _ _ _ us hl => match us, hl with | [_], _ => rfl) (fun vs H Q E h => ?_) (fun cdv A outer s H vs Q E hr h => ?_)
  · obtain ⟨f, L, F, rfl, _⟩ := h
    rfl
  · obtain ⟨f, L, F, rfl, hF, q⟩ := h
    refine ⟨_, (pss_one (ps_try_only rfl rfl ⟨rfl, by decide, .inl (T.glo _ hTT)⟩ takes0 (fun W pn xe tk _ =>
(pss_one (ps_ret (pe_cmpR op_isN (pe_cS G_product_count hr tk (pa_cons (pv 0) pa_nil)) pe_non (nomark _))))) (fun a oe cls d pn hz hf =>
(pss_one (ps_ret pe_bl))))), ?_⟩
    refine ⟨.ref f, rfl, f, L, F, rfl, hF, fun H1 e1 => ⟨fun hex => ⟨rfl, q H1 _ e1 ⟨fun _ => hex, fun _ => rfl⟩⟩, fun hall => ⟨fun n => ⟨rfl, ?_⟩, ?_⟩⟩⟩
    · refine q H1 _ e1 ⟨(fun z => nomatch z), fun ⟨r, hr, hn⟩ => absurd (hall r hr) hn⟩
    · refine ⟨true, T.ett, fun _ a ha => ?_, fun z => nomatch z⟩
      exact q H1 _ e1 ⟨(fun z => nomatch z), fun ⟨r, hr, hn⟩ => absurd (hall r hr) hn⟩
end
end S
end

section
set_option Elab.async false
set_option linter.all false
set_option autoImplicit false
set_option maxRecDepth 100000
set_option maxHeartbeats 4000000
namespace S
open PySem PySem.Spec PyProof.Rows L2 Evl
section
variable {P : Program} {w : World} {K : PySem.W.Frag} {mg : Str → Option Value} {base : Heap}
/-! ### steps_of -/
theorem sc_steps_of : FnScope ["family", "found", "number", "plug", "slots", "_", "index", "state"] ["family"] (defScope (top 34)) := ⟨rfl, rfl, rfl, by decide +kernel, rfl, by decide +kernel, by decide +kernel⟩
-- slots: 0 family, 1 found, 2 number, 3 plug, 4 slots, 5 _, 6 index, 7 state

structure StepsOk (F : Fam) (l : List (Addr × Stp)) : Prop where
  mem : ∀ p i j s, HasS l (p, i, j, s) ↔ IsStep F p i j s
  len : l.length ≤ 36
theorem StepsOk.perm {F : Fam} {l l' : List (Addr × Stp)} (h : StepsOk F l) (hp : l'.Perm l) : StepsOk F l' := ⟨fun p i j s => (HasS.perm hp _).trans (h.mem p i j s), by rw [hp.length_eq]; exact h.len⟩
theorem StepsOk.small {F : Fam} (ok : F.Ok) {l : List (Addr × Stp)} (h : StepsOk F l) : ∀ q, q ∈ l → q.2.1 < 100 ∧ q.2.2.1 < 100 ∧ q.2.2.2.1 < 100 ∧ q.2.2.2.2 < 100 := fun q hq => by
  obtain ⟨a, p, i, j, s⟩ := q
  have := ((h.mem p i j s).mp ⟨a, hq⟩).at.lt ok
  have := ok.c4
  have := ok.v12
  exact ⟨by show p < 100; omega, by show i < 100; omega, by show j < 100; omega, by show s < 100; omega⟩
def spSteps : Sp := fun vs H Q _ => ∃ (f : Addr) (L : Lay) (F : Fam), vs = [.ref f] ∧ FamAt H f L F ∧ ∀ p H' l, Ex H H' → StepsAt H' p l → StepsOk F l → Q (.ref p) H'
theorem et_useful {σ : L2.St} {H : Hp} {ta : TE} {f : Addr} {L : Lay} {F : Fam} (ha : Ev ta σ H (.ref f)) (hF : FamAt H f L F) :
    EX (tCall spUseful [] E0 (tCons ta tNil)) σ H (fun v H' => ∃ p us, v = .ref p ∧ H' p = some (.tup (us.map nV)) ∧ UsefulL F us) :=
  ex_call (ea_cons ha ea_nil) fun H1 e Q q E => ⟨f, L, F, rfl, hF.ex e, fun p H' us e' hp ho => q _ _ e' ⟨p, us, rfl, hp, ho⟩⟩
/-- for .. over a tuple that an evaluation gives -/
theorem s_forX {σ : L2.St} {H : Hp} {tl : TE} {g : TG} {tu : TS} {D : Ends} {Pt : List V → Prop} (h : EX tl σ H (fun v H' => ∃ a xs, v = .ref a ∧ H' a = some (.tup xs) ∧ Pt xs))
    (k : ∀ a xs H1, Ex H H1 → H1 a = some (.tup xs) → Pt xs → ∃ Pv : Nat → L2.St → Hp → Prop, Pv 0 σ H1 ∧ (∀ i σ' H', i ≤ xs.length → Pv i σ' H' → SqT K H' a xs) ∧
      (∀ i x σ' H', xs[i]? = some x → Pv i σ' H' → g x σ' H' fun σ2 H2 => tu { D with nx := Pv (i + 1), ct := Pv (i + 1), bk := D.nx } σ2 H2) ∧ (∀ σ' H', Pv xs.length σ' H' → D.nx σ' H')) : tFor (iTup K tl) g tu D σ H :=
  h H (Ex.refl H) _ fun v H1 e hv => by
    obtain ⟨a, xs, rfl, hx, hp⟩ := hv
    obtain ⟨Pv, h0, hl, hs, hd⟩ := k a xs H1 e hx hp
    exact ⟨a, rfl, ⟨xs, SqT.of hx⟩, for_tup Pv h0 hl hs hd⟩
theorem ok_steps_of (T : Txt K mg) : Good P w K mg base CX0 4 "steps_of" ["family"] spSteps := by
  have G_useful_variants : Good P w K mg base CX0 3 "useful_variants" ["family"] spUseful := ok_useful_variants T
  refine Good.of T (j := 21) (i := 34) rfl rfl sc_steps_of (fun _ _ _ _ _ _ us hl => match us, hl with | [_], _ => rfl) (fun vs H Q E h => ?_) (fun cdv A outer s H vs Q E hr h => ?_)
  · obtain ⟨f, L, F, rfl, _⟩ := h
    rfl
  · obtain ⟨f, L, F, rfl, hF, q⟩ := h
    refine ⟨_, (pss_cons (ps_set (i := 1) sc_steps_of.nd rfl (.inl rfl) (pe_lst pa_nil))
(pss_cons (ps_for PassesOwn.never rfl (pi_tup (pe_c G_useful_variants hr (pa_cons (pv 0) pa_nil))) (pg_name (i := 2) sc_steps_of.nd rfl (.inl rfl))
(pss_cons (ps_asg (pe_ix ix_tup (pe_ix ix_tup (pv 0) pe_int (fun _ _ => rfl)) (pv 2) (fun _ _ => rfl)) (pg_tup (by rfl) (pgs_cons (pg_name (i := 3) sc_steps_of.nd rfl (.inl rfl)) (pgs_cons (pg_name (i := 4) sc_steps_of.nd rfl (.inl rfl)) (pgs_cons (pg_name (i := 5) sc_steps_of.nd rfl (.inl rfl)) pgs_nil)))))
(pss_one (ps_for PassesOwn.never rfl (pi_enumT (by rfl) T.m_enumerate (pa_cons (pv 4) pa_nil)) (pg_tup (by rfl) (pgs_cons (pg_name (i := 6) sc_steps_of.nd rfl (.inl rfl)) (pgs_cons (pg_name (i := 7) sc_steps_of.nd rfl (.inl rfl)) pgs_nil)))
(pss_one (ps_expr (pe_bm PySem.F.plainAttrs_list PySem.F.slot_list_append PySem.F.type_list_append mt_append (pv 1) (pa_cons (pe_tup (pa_cons (pv 3) (pa_cons (pv 2) (pa_cons (pv 6) (pa_cons (pv 7) pa_nil))))) pa_nil))))))))
(pss_one (ps_ret (pe_callB (cr_sortT (d := 4) (B := 100) (by decide)) (by rfl) T.m_sorted (by decide +kernel) (pa_cons (pv 1) pa_nil)))))), ?_⟩
    have ok := hF.ok
    have v12 := ok.v12
    refine s_asgL (el_lst ea_nil (by decide)) fun b H1 nb e1 hb => ?_
    have hF1 := hF.ex e1
    refine s_forX (Pt := fun xs => ∃ us : List Nat, xs = us.map nV ∧ UsefulL F us) (fun H2 e2 Q q => et_useful (ev_var rfl) hF1 H2 e2 Q fun v H3 e3 hv => q v H3 e3 (by obtain ⟨p, us, h1, h2, h3⟩ := hv; exact ⟨p, _, h1, h2, us, rfl, h3⟩)) fun a xs H2 e2 ha hus => ?_
    obtain ⟨us, rfl, hus⟩ := hus
    refine ⟨fun k σ' H' => ∃ (l : List (Addr × Stp)) (y2 y3 y4 y5 y6 y7 : Option V), σ' = [some (.ref f), some (.ref b), y2, y3, y4, y5, y6, y7] ∧ Ex H H' ∧ H' a = some (.tup (us.map nV)) ∧ StepsAt H' b l ∧ l.length ≤ 3 * k ∧
        (∀ p i j s, HasS l (p, i, j, s) ↔ i ∈ us.take k ∧ StepAt F p i j s), ⟨[], none, none, none, none, none, none, rfl, e1.trans e2, ha, ⟨e2 _ _ hb, fun _ hq => absurd hq List.not_mem_nil⟩, Nat.le_refl _, fun p i j s => ⟨fun ⟨_, z⟩ => absurd z List.not_mem_nil, fun ⟨z, _⟩ => absurd z (by rw [List.take_zero]; exact List.not_mem_nil)⟩⟩,
      fun k σ' H' _ hW => SqT.of (by obtain ⟨_, _, _, _, _, _, _, _, _, z, _⟩ := hW; exact z), fun k x σ' H' hx hW => ?_, fun σ' H' hW => ?_⟩
    · obtain ⟨l, y2, y3, y4, y5, y6, y7, rfl, eH, ha', hl, hln, hm⟩ := hW
      obtain ⟨n, hn, rfl⟩ := map_get hx
      obtain ⟨v, hv, hu⟩ := (hus.mem n).mp (get_mem hn)
      have hvr := (hF.ex eH).h3 n v hv
      have hkl := get_lt hn
      have hul := hus.len
      refine s_asg3 (et_of (ev_ixT (ev_f2 (ev_var rfl) (hF.ex eH)) (ev_var rfl) (hF.ex eH).h2 (FamAt.at F L (get_lt hv))) hvr.h) fun H3 e3 => ?_
      have hs3 := e3 _ _ hvr.hs
      refine ⟨.ref (L.sa n), rfl, L.sa n, _, rfl, SqT.of hs3, for_it walk_enumT (fun jn σ' H' => ∃ (l2 : List (Addr × Stp)) (y6 y7 : Option V), σ' = [some (.ref f), some (.ref b), some (nV n), some (nV v.plug), some (.ref (L.sa n)), some (pV v.price), y6, y7] ∧ Ex H H' ∧ H' a = some (.tup (us.map nV)) ∧ StepsAt H' b l2 ∧ l2.length ≤ 3 * k + jn ∧
        (∀ p i j s, HasS l2 (p, i, j, s) ↔ (i ∈ us.take k ∧ StepAt F p i j s) ∨ (i = n ∧ j < jn ∧ StepAt F p i j s))) ⟨l, y6, y7, rfl, eH.trans e3, e3 _ _ ha', hl.ex e3, by omega, fun p i j s => ?_⟩ (fun i σ' H' _ hW => SqT.of (by obtain ⟨_, _, _, _, z, _⟩ := hW; exact z _ _ ((hF.h3 n v hv).hs))) (fun jn x σ' H4 H5 hj hW hy => ?_) (fun σ' H4 hW => ?_)⟩
      · rw [hm]
        exact ⟨fun h => .inl h, fun h => h.resolve_right fun ⟨_, z, _⟩ => absurd z (Nat.not_lt_zero _)⟩
      · obtain ⟨l2, y6, y7, rfl, eH4, ha4, hl4, hln4, hm4⟩ := hW
        obtain ⟨Tt, x1, x2, rfl, nT, rfl, e1', e2'⟩ := hy
        have ex1 : x1 = nV jn := (Option.some.inj e1').symm
        subst ex1
        obtain ⟨s, hs, rfl⟩ := map_get e2'
        have hsl := ok.s3 v (get_mem hv)
        have hj3 := get_lt hs
        have eT : Ex H4 (upd H4 Tt (.tup [nV jn, nV s])) := Ex.new nT
        refine ⟨Tt, _, rfl, SqT.of upd_same, rfl, _, _, rfl, _, _, rfl, rfl, ?_⟩
        refine s_appT (zs := sV (v.plug, n, jn, s)) (hl4.ex eT).h (ev_var rfl) (et_new (eu_tup (ea_cons (ev_var rfl) (ea_cons (ev_var rfl) (ea_cons (ev_var rfl) (ea_cons (ev_var rfl) ea_nil)))) (by show 4 ≤ 100000; decide))) (by rw [List.length_map]; omega) fun r H6 e6 hr6 => ?_
        have eH6 := (eH4.trans eT).trans e6
        have em : Ex H6 (upd H6 b (.lst (l2.map (fun q => V.ref q.1) ++ [.ref r]))) ∨ True := .inr trivial
        have hba : a ≠ b := fun z => by
          have := (hl4.ex eT).h
          rw [← z, eT _ _ ha4] at this
          cases this
        refine ⟨l2 ++ [(r, (v.plug, n, jn, s))], some (nV jn), some (nV s), rfl, Ex.mut eH6 nb, by rw [upd_ne hba]; exact e6 _ _ (eT _ _ ha4), ⟨by rw [upd_same, List.map_append] <;> rfl, fun qq hq => ?_⟩, by rw [List.length_append]; show l2.length + 1 ≤ _; omega, fun p i j s' => ?_⟩
        · have hne : qq.1 ≠ b := fun z => by
            rcases List.mem_append.mp hq with hq | hq
            · have := hl4.each qq hq
              rw [z, hl4.h] at this
              cases this
            · rw [List.mem_singleton] at hq
              subst hq
              have h7 := ((hl4.ex eT).ex e6).h
              rw [← z] at h7
              have h8 : H6 r = some (.lst (l2.map fun q => V.ref q.1)) := h7
              rw [hr6] at h8
              cases h8
          rw [upd_ne hne]
          rcases List.mem_append.mp hq with hq | hq
          · exact ((hl4.ex eT).ex e6).each qq hq
          · rw [List.mem_singleton] at hq
            subst hq
            exact hr6
        · rw [HasS.snoc, hm4]
          constructor
          · rintro ((h | ⟨h1, h2, h3⟩) | h)
            · exact .inl h
            · exact .inr ⟨h1, by omega, h3⟩
            · injection h with h1 h2
              injection h2 with h2 h3
              injection h3 with h3 h4
              subst h1 h2 h3 h4
              exact .inr ⟨rfl, Nat.lt_succ_self _, v, hv, rfl, hs⟩
          · rintro (h | ⟨h1, h2, h3⟩)
            · exact .inl (.inl h)
            · rcases Nat.lt_succ_iff_lt_or_eq.mp h2 with h2 | h2
              · exact .inl (.inr ⟨h1, h2, h3⟩)
              · subst h1 h2
                obtain ⟨x, hx, hp, hs'⟩ := h3
                rw [hv] at hx
                have := Option.some.inj hx
                subst this
                rw [hs] at hs'
                have := Option.some.inj hs'
                subst this hp
                exact .inr rfl
      · obtain ⟨l2, y6, y7, rfl, eH4, ha4, hl4, hln4, hm4⟩ := hW
        have hsl := ok.s3 v (get_mem hv)
        rw [List.length_map] at hln4 hm4
        refine ⟨l2, _, _, _, _, _, _, rfl, eH4, ha4, hl4, by omega, fun p i j s => ?_⟩
        rw [hm4, List.take_add_one, hn, List.mem_append]
        constructor
        · rintro (⟨h1, h2⟩ | ⟨h1, h2, h3⟩)
          · exact ⟨.inl h1, h2⟩
          · exact ⟨.inr (by rw [h1]; exact List.mem_singleton.mpr rfl), h3⟩
        · rintro ⟨h1 | h1, h2⟩
          · exact .inl ⟨h1, h2⟩
          · have : i = n := List.mem_singleton.mp h1
            subst this
            obtain ⟨x, hx, hp, hs'⟩ := h2
            rw [hv] at hx
            have := Option.some.inj hx
            subst this
            exact .inr ⟨rfl, get_lt hs', v, hv, hp, hs'⟩
    · obtain ⟨l, y2, y3, y4, y5, y6, y7, rfl, eH, ha', hl, hln, hm⟩ := hW
      rw [List.length_map] at hln hm
      have hul := hus.len
      have hok : StepsOk F l := ⟨fun p i j s => by
        rw [hm, List.take_length]
        constructor
        · rintro ⟨h1, x, hx, hp, hs⟩
          obtain ⟨y, hy, hu⟩ := (hus.mem i).mp h1
          rw [hx] at hy
          have := Option.some.inj hy
          subst this
          exact ⟨x, hx, hu, hp, hs⟩
        · rintro ⟨x, hx, hu, hp, hs⟩
          exact ⟨(hus.mem i).mpr ⟨x, hx, hu⟩, x, hx, hp, hs⟩, by omega⟩
      refine s_retX (ex_sorted (ev_var rfl) hl (by have := hok.len; omega) (hok.small ok)) fun v H3 e3 hv => ?_
      obtain ⟨p', l', rfl, hl', hp⟩ := hv
      exact q p' H3 l' (eH.trans e3) hl' (hok.perm hp)
end
end S
end

section
set_option Elab.async false
set_option linter.all false
set_option autoImplicit false
set_option maxRecDepth 100000
set_option maxHeartbeats 4000000
namespace S
open PySem PySem.Spec PyProof.Rows L2 Evl
section
variable {P : Program} {w : World} {K : PySem.W.Frag} {mg : Str → Option Value} {base : Heap}
/-! ### distances_to -/
theorem sc_distances_to : FnScope ["steps", "goal", "distances", "layer", "above", "plug", "_", "state"] ["steps", "goal"] (defScope (top 35)) := ⟨rfl, rfl, rfl, by decide +kernel, rfl, by decide +kernel, by decide +kernel⟩
-- slots: 0 steps, 1 goal, 2 distances, 3 layer, 4 above, 5 plug, 6 _, 7 state

def EdgeL (l : List (Addr × Stp)) (p s : Nat) : Prop := ∃ i j, HasS l (p, i, j, s)
structure DistOk (l : List (Addr × Stp)) (goal : Nat) (g : Nat → Option V) : Prop where
  g0 : g goal = some (nV 0)
  val : ∀ t v, g t = some v → ∃ n, v = nV n ∧ n ≤ 4 ∧ (n = 0 → t = goal) ∧ ∀ m, n = m + 1 → ∃ s, EdgeL l t s ∧ g s = some (nV m)
  closed : ∀ t s, EdgeL l t s → (g s).isSome = true → (g t).isSome = true
def spDist : Sp := fun vs H Q _ => ∃ (p : Addr) (goal : Nat) (l : List (Addr × Stp)), vs = [.ref p, nV goal] ∧ StepsAt H p l ∧ (∀ q, q ∈ l → q.2.1 < 4) ∧ ∀ d H' g, Ex H H' → DkAt H' d g 5 → DistOk l goal g → Q (.ref d) H'
def gAdd (g : Nat → Option V) (as : List Nat) (v : V) : Nat → Option V := fun x => if x ∈ as then some v else g x
theorem gAdd_in {g : Nat → Option V} {as : List Nat} {v : V} {x : Nat} (h : x ∈ as) : gAdd g as v x = some v := if_pos h
theorem gAdd_out {g : Nat → Option V} {as : List Nat} {v : V} {x : Nat} (h : x ∉ as) : gAdd g as v x = g x := if_neg h
theorem gAdd_snoc {g : Nat → Option V} {as : List Nat} {v : V} {a : Nat} : dPut (gAdd g as v) a v = gAdd g (as ++ [a]) v := by
  funext x
  unfold dPut gAdd
  by_cases e : x = a
  · subst e
    rw [if_pos rfl, if_pos (List.mem_append_right _ (List.mem_singleton.mpr rfl))]
  · rw [if_neg e]
    by_cases h : x ∈ as
    · rw [if_pos h, if_pos (List.mem_append_left _ h)]
    · rw [if_neg h, if_neg (fun z => (List.mem_append.mp z).elim h (fun z => e (List.mem_singleton.mp z)))]
theorem ok_distances_to (T : Txt K mg) : Good P w K mg base CX0 1 "distances_to" ["steps", "goal"] spDist := by
  refine Good.of T (j := 22) (i := 35) rfl rfl sc_distances_to (fun _ _ _ _ _ _ us hl => match us, hl with | [_, _], _ => rfl) (fun vs H Q E h => ?_) (fun cdv A outer s H vs Q E hr h => ?_)
  · obtain ⟨p, goal, l, rfl, _⟩ := h
    rfl
  · obtain ⟨p, goal, l, rfl, hl, h4, q⟩ := h
    refine ⟨_, (pss_cons (ps_set (i := 2) sc_distances_to.nd rfl (.inl rfl) (pe_disp (pps_cons (pv 1) pe_int pps_nil) (by rfl) (by rfl) (fun z => by cases z) (by decide)))
(pss_cons (ps_set (i := 3) sc_distances_to.nd rfl (.inl rfl) (pe_lst (pa_cons (pv 1) pa_nil)))
(pss_cons (ps_while PassesOwn.never (pt_tru (pv 3) (by intro _; rfl))
(pss_cons (ps_set (i := 4) sc_distances_to.nd rfl (.inl rfl) (pe_lst pa_nil))
(pss_cons (ps_for PassesOwn.never rfl (pi_list (pv 0)) (pg_tup (by rfl) (pgs_cons (pg_name (i := 5) sc_distances_to.nd rfl (.inl rfl)) (pgs_cons (pg_name (i := 6) sc_distances_to.nd rfl (.inl rfl)) (pgs_cons (pg_name (i := 6) sc_distances_to.nd rfl (.inl rfl)) (pgs_cons (pg_name (i := 7) sc_distances_to.nd rfl (.inl rfl)) pgs_nil)))))
(pss_one (ps_if (PW.pt (pw_and (pt_cmpR op_in_seq (pv 7) (pv 3) (by rfl)) (pw_and (pt_cmp (pc_dnotin (hu_of hr) (pv 5) (pv 2))) (pw_and1 (pt_cmpR op_notIn_seq (pv 5) (pv 4) (by rfl))))))
(pss_one (ps_expr (pe_bm PySem.F.plainAttrs_list PySem.F.slot_list_append PySem.F.type_list_append mt_append (pv 4) (pa_cons (pv 5) pa_nil)))) pss_nil)))
(pss_cons (ps_for PassesOwn.never rfl (pi_list (pv 4)) (pg_name (i := 5) sc_distances_to.nd rfl (.inl rfl))
(pss_one (ps_dput (hu_of hr) (pv 2) (pv 5) (pe_op op_add (pe_dget (hu_of hr) (pv 2) (pe_ix ix_list (pv 3) pe_int (fun _ _ => rfl)) (fun _ _ => rfl)) pe_int) rfl)))
(pss_one (ps_set (i := 3) sc_distances_to.nd rfl (.inl rfl) (pv 4)))))))
(pss_one (ps_ret (pv 2)))))), ?_⟩
    refine s_disp (v := nV 0) (s := goal) (ev_var rfl) ev_c fun d H1 kvs nd e1 hd => ?_
    have e1' := e1
    generalize upd H1 d (.dK kvs) = Ha at *
    refine s_asgL (el_lst (ea_cons (ev_var rfl) ea_nil) (by show 1 ≤ 100000; decide)) fun y H2 ny e2 hy => ?_
    have cN0 : cN 4 (dPut (fun _ => none) goal (nV 0)) ≤ 4 := cN_le _ _
    refine s_while (fun m σ' H' => ∃ (y : Addr) (ls : List Nat) (g : Nat → Option V) (n t : Nat) (y4 y5 y6 y7 : Option V), σ' = [some (.ref p), some (nV goal), some (.ref d), some (.ref y), y4, y5, y6, y7] ∧ Ex H H' ∧ H' y = some (.lst (ls.map nV)) ∧ DkAt H' d g n ∧
        n + cN 4 g ≤ 5 ∧ t + cN 4 g ≤ 4 ∧ (∀ x, x ∈ ls → g x = some (nV t)) ∧ g goal = some (nV 0) ∧ (∀ x v, g x = some v → ∃ n, v = nV n ∧ n ≤ 4 ∧ (n = 0 → x = goal) ∧ ∀ m, n = m + 1 → ∃ s, EdgeL l x s ∧ g s = some (nV m)) ∧
        (∀ x s, EdgeL l x s → (g s).isSome = true → (g x).isSome = true ∨ s ∈ ls) ∧ m = 2 * cN 4 g + (if ls = [] then 0 else 1)) _
      ⟨y, [goal], dPut (fun _ => none) goal (nV 0), 1, 0, none, none, none, none, rfl, e1'.trans e2, hy, hd.exx e2, by omega, by omega, fun x hx => ?_, dPut_same, fun x v hx => ?_, fun x s he hs => ?_, rfl⟩ (fun m σ' H' hW => ?_)
    · rw [List.mem_singleton.mp hx]
      exact dPut_same
    · by_cases e : x = goal
      · subst e
        rw [dPut_same] at hx
        exact ⟨0, (Option.some.inj hx).symm, by omega, fun _ => rfl, fun m hm => by cases hm⟩
      · rw [dPut_ne e] at hx
        cases hx
    · by_cases e : s = goal
      · exact .inr (by rw [e]; exact List.mem_singleton.mpr rfl)
      · rw [dPut_ne e] at hs
        cases hs
    · obtain ⟨y, ls, g, n, t, y4, y5, y6, y7, rfl, eH, hy, hd, hn, ht, hls, hgo, hval, hcl, rfl⟩ := hW
      refine ⟨_, et_lst (ev_var rfl) hy, fun hne H5 e5 => ⟨_, fun σ2 H2 z => z, ?_⟩, fun hne H5 e5 => ?_⟩
      · have hne' : ls ≠ [] := fun z => by rw [z] at hne; cases hne
        refine s_asgL (el_lst ea_nil (by decide)) fun b H6 nb e6 hb => ?_
        have e56 := e5.trans e6
        have nbH : H b = none := fresh_back (eH.trans e5) nb
        refine s_forL (ev_var rfl) (SqL.of ((hl.ex (eH.trans e56)).h)) (fun i σ' H' => ∃ (as : List Nat) (y5 y6 y7 : Option V), σ' = [some (.ref p), some (nV goal), some (.ref d), some (.ref y), some (.ref b), y5, y6, y7] ∧ Ex H5 H' ∧ H' b = some (.lst (as.map nV)) ∧ as.Nodup ∧
            (∀ a, a ∈ as → g a = none ∧ a < 4 ∧ ∃ s, s ∈ ls ∧ EdgeL l a s) ∧ (∀ q, q ∈ l.take i → q.2.2.2.2 ∈ ls → (g q.2.1).isSome = true ∨ q.2.1 ∈ as) ∧ as.length ≤ i)
          (fun H7 e7 => ⟨[], y5, y6, y7, rfl, e6.trans e7, e7 _ _ hb, List.nodup_nil, fun a ha => absurd ha List.not_mem_nil, fun q hq => absurd hq (by rw [List.take_zero]; exact List.not_mem_nil), Nat.le_refl _⟩)
          (fun i σ' H' _ hW => SqL.of ((hl.ex (by obtain ⟨_, _, _, _, _, z, _⟩ := hW; exact (eH.trans e5).trans z)).h)) (fun i x σ' H' hx hW => ?_) (fun σ' H' hW => ?_)
        · obtain ⟨as, y5, y6, y7, rfl, eH', hb', hnd, has, hpr, hal⟩ := hW
          obtain ⟨qq, hq, rfl⟩ := map_get hx
          have hq4 := hl.ex ((eH.trans e5).trans eH')
          have hqt := hq4.each qq (get_mem hq)
          have hil := get_lt hq
          obtain ⟨r, pl, iv, jv, st⟩ := qq
          refine ⟨r, _, rfl, SqT.of hqt, rfl, _, _, rfl, _, _, rfl, _, _, rfl, _, _, rfl, rfl, ?_⟩
          have hy5 := eH' _ _ (e5 _ _ hy)
          have hd5 := (hd.exx e5).exx eH'
          refine s_if (b := decide (st ∈ ls) && (!(g pl).isSome && !decide (pl ∈ as))) (et_and (et_test (ev_inL (s := st) (ev_var rfl) (ev_var rfl) hy5)) fun _ => et_and (et_B (ev_dnotin (s := pl) (ev_var rfl) (ev_var rfl) hd5)) fun _ => et_test (ev_niL (s := pl) (ev_var rfl) (ev_var rfl) hb')) (fun hb2 H7 e7 => ?_) (fun hb2 H7 e7 => ?_)
          · obtain ⟨b1, b2⟩ := Bool.and_eq_true_iff.mp hb2
            obtain ⟨b2, b3⟩ := Bool.and_eq_true_iff.mp b2
            have hst : st ∈ ls := of_decide_eq_true b1
            have hgp : g pl = none := by
              cases z : g pl with
              | none => rfl
              | some v => rw [z] at b2; cases b2
            have hpa : pl ∉ as := by simpa using b3
            refine s_appE (v := nV pl) (e7 _ _ hb') (ev_var rfl) (ev_var rfl) (by rw [List.length_map]; have := nodup_le hnd (fun a ha => (has a ha).2.1); omega) fun H8 e8 => ?_
            refine ⟨as ++ [pl], _, _, _, rfl, Ex.mut (eH'.trans (e7.trans e8)) nb, by rw [upd_same, List.map_append] <;> rfl, ?_, fun a ha => ?_, fun q hq2 hqs => ?_, by rw [List.length_append]; show as.length + 1 ≤ _; omega⟩
            · exact List.nodup_append.mpr ⟨hnd, List.nodup_cons.mpr ⟨List.not_mem_nil, List.nodup_nil⟩, fun a ha b hb z => by
                rw [List.mem_singleton] at hb
                rw [z, hb] at ha
                exact hpa ha⟩
            · rcases List.mem_append.mp ha with ha | ha
              · exact has a ha
              · rw [List.mem_singleton] at ha
                subst ha
                exact ⟨hgp, h4 _ (get_mem hq), st, hst, iv, jv, r, get_mem hq⟩
            · rw [List.take_add_one, hq, List.mem_append] at hq2
              rcases hq2 with hq2 | hq2
              · rcases hpr q hq2 hqs with h | h
                · exact .inl h
                · exact .inr (List.mem_append_left _ h)
              · have : q = (r, pl, iv, jv, st) := List.mem_singleton.mp hq2
                subst this
                exact .inr (List.mem_append_right _ (List.mem_singleton.mpr rfl))
          · refine ⟨as, _, _, _, rfl, eH'.trans e7, e7 _ _ hb', hnd, has, fun q hq2 hqs => ?_, by omega⟩
            rw [List.take_add_one, hq, List.mem_append] at hq2
            rcases hq2 with hq2 | hq2
            · exact hpr q hq2 hqs
            · have : q = (r, pl, iv, jv, st) := List.mem_singleton.mp hq2
              subst this
              have hst : st ∈ ls := hqs
              rw [decide_eq_true hst, Bool.true_and] at hb2
              cases z : (g pl).isSome with
              | true => exact .inl rfl
              | false =>
                rw [z] at hb2
                have : decide (pl ∈ as) = true := by
                  cases z2 : decide (pl ∈ as) with
                  | true => rfl
                  | false => rw [z2] at hb2; cases hb2
                exact .inr (of_decide_eq_true this)
        · obtain ⟨as, y5, y6, y7, rfl, eH', hb', hnd, has, hpr, hal⟩ := hW
          rw [List.length_map, List.take_length] at hpr
          have hal4 := nodup_le hnd (fun a ha => (has a ha).2.1)
          have hyq := eH' _ _ (e5 _ _ hy)
          obtain ⟨l0, lr, hl0⟩ : ∃ l0 lr, ls = l0 :: lr := by
            cases ls with
            | nil => exact absurd rfl hne'
            | cons a r => exact ⟨a, r, rfl⟩
          have hg0 := hls l0 (by rw [hl0]; exact List.mem_cons_self)
          have hdb : d ≠ b := fun z => by
            obtain ⟨kvs, h1, _⟩ := ((hd.exx e5).exx eH').ex
            rw [z, hb'] at h1
            cases h1
          have hyb : y ≠ b := fun z => by
            have h7 := e5 _ _ hy
            rw [z, nb] at h7
            cases h7
          have hyd : y ≠ d := fun z => by
            obtain ⟨kvs, h1, _⟩ := hd.ex
            rw [← z, hy] at h1
            cases h1
          refine s_forL (ev_var rfl) (SqL.of hb') (fun k σ' H' => ∃ (y5 : Option V), σ' = [some (.ref p), some (nV goal), some (.ref d), some (.ref y), some (.ref b), y5, y6, y7] ∧ Ex H H' ∧ H' b = some (.lst (as.map nV)) ∧ H' y = some (.lst (ls.map nV)) ∧ DkAt H' d (gAdd g (as.take k) (nV (t + 1))) (n + k) ∧ cN 4 (gAdd g (as.take k) (nV (t + 1))) + k = cN 4 g)
            (fun H7 e7 => ⟨y5, rfl, ((eH.trans e5).trans eH').trans e7, e7 _ _ hb', e7 _ _ hyq, ?_, ?_⟩) (fun i σ' H' _ hW => SqL.of (by obtain ⟨_, _, _, z, _⟩ := hW; exact z)) (fun k x σ' H' hx hW => ?_) (fun σ' H' hW => ?_)
          · rw [List.take_zero]
            have : gAdd g [] (nV (t + 1)) = g := funext fun x => gAdd_out List.not_mem_nil
            rw [this]
            exact ((hd.exx e5).exx eH').exx e7
          · rw [List.take_zero]
            have : gAdd g [] (nV (t + 1)) = g := funext fun x => gAdd_out List.not_mem_nil
            rw [this] <;> rfl
          · obtain ⟨y5, rfl, eH8, hb8, hy8, hd8, hc8⟩ := hW
            obtain ⟨a, ha, rfl⟩ := map_get hx
            have hkl := get_lt ha
            have hga := (has a (get_mem ha)).1
            have hat : a ∉ as.take k := fun z => by
              obtain ⟨j, hj⟩ := List.getElem?_of_mem z
              have hjk := get_lt hj
              rw [List.length_take] at hjk
              rw [List.getElem?_take_of_lt (by omega)] at hj
              have := nodup_at hnd hj ha
              omega
            have h0t : l0 ∉ as.take k := fun z => by
              have := (has l0 (List.mem_of_mem_take z)).1
              rw [hg0] at this
              cases this
            refine s_dput (v := nV (t + 1)) (s := a) hd8 (ev_is (ev_op (ev_dget (s := l0) (v := nV t) (ev_var rfl) (ev_ixL (i := 0) (ev_var rfl) ev_c hy8 (by rw [hl0] <;> rfl)) hd8 (by rw [gAdd_out h0t]; exact hg0)) ev_c rv_I0) (by show V.int ((t : Int) + 1) = V.int ((t + 1 : Nat) : Int); rw [Int.natCast_succ])) (ev_var rfl) (ev_var rfl) (by omega) fun H9 kvs e9 hd9 => ?_
            have e3 : as.take (k + 1) = as.take k ++ [a] := by rw [List.take_add_one, ha] <;> rfl
            refine ⟨_, rfl, Ex.mut (eH8.trans e9) nd, by rw [upd_ne (fun z => hdb z.symm)]; exact e9 _ _ hb8, by rw [upd_ne hyd]; exact e9 _ _ hy8, ?_, ?_⟩
            · rw [e3, ← gAdd_snoc]
              exact hd9
            · rw [e3, ← gAdd_snoc]
              have := cN_put (n := 4) (g := gAdd g (as.take k) (nV (t + 1))) (g' := dPut (gAdd g (as.take k) (nV (t + 1))) a (nV (t + 1))) (s := a) (has a (get_mem ha)).2.1 (by rw [gAdd_out hat]; exact hga) (by rw [dPut_same] <;> rfl) (fun u hu => dPut_ne hu)
              omega
          · obtain ⟨y5, rfl, eH8, hb8, hy8, hd8, hc8⟩ := hW
            rw [List.length_map, List.take_length] at hd8 hc8
            refine s_asg (ev_var rfl) fun H9 e9 => ?_
            have hsome : ∀ x, (g x).isSome = true → gAdd g as (nV (t + 1)) x = g x := fun x hx => gAdd_out fun z => by
              rw [(has x z).1] at hx
              cases hx
            refine ⟨2 * cN 4 (gAdd g as (nV (t + 1))) + (if as = [] then 0 else 1), ?_, b, as, gAdd g as (nV (t + 1)), n + as.length, t + (if as = [] then 0 else 1), _, _, _, _, rfl, eH8.trans e9, e9 _ _ hb8, hd8.exx e9, by omega, ?_, fun x hx => ?_, ?_, fun x v hx => ?_, fun x s he hs => ?_, rfl⟩
            · rw [if_neg hne']
              split
              · omega
              · rename_i has0
                have : 1 ≤ as.length := by
                  cases as with
                  | nil => exact absurd rfl has0
                  | cons a r => rw [List.length_cons]; omega
                omega
            · split
              · omega
              · rename_i has0
                have : 1 ≤ as.length := by
                  cases as with
                  | nil => exact absurd rfl has0
                  | cons a r => rw [List.length_cons]; omega
                omega
            · rw [if_neg (fun z => by rw [z] at hx; exact absurd hx List.not_mem_nil)]
              exact gAdd_in hx
            · rw [hsome goal (by rw [hgo] <;> rfl)]
              exact hgo
            · by_cases hxa : x ∈ as
              · rw [gAdd_in hxa] at hx
                obtain ⟨_, _, s, hs, he⟩ := has x hxa
                have h1 : 1 ≤ as.length := by
                  cases as with
                  | nil => exact absurd hxa List.not_mem_nil
                  | cons a r => rw [List.length_cons]; omega
                refine ⟨t + 1, (Option.some.inj hx).symm, by omega, (fun z => by omega), fun m hm => ⟨s, he, ?_⟩⟩
                have hgs := hls s hs
                rw [hsome s (by rw [hgs] <;> rfl), hgs]
                have : t = m := by omega
                rw [this]
              · rw [gAdd_out hxa] at hx
                obtain ⟨k, h1, h2, h3, h5⟩ := hval x v hx
                refine ⟨k, h1, h2, h3, fun m hm => ?_⟩
                obtain ⟨s, he, hgs⟩ := h5 m hm
                exact ⟨s, he, by rw [hsome s (by rw [hgs] <;> rfl)]; exact hgs⟩
            · by_cases hsa : s ∈ as
              · exact .inr hsa
              · rw [gAdd_out hsa] at hs
                have hup : (g x).isSome = true → (gAdd g as (nV (t + 1)) x).isSome = true := fun h => by rw [hsome x h]; exact h
                rcases hcl x s he hs with h | h
                · exact .inl (hup h)
                · obtain ⟨i, j, r, hr⟩ := he
                  rcases hpr (r, x, i, j, s) hr h with h | h
                  · exact .inl (hup h)
                  · exact .inl (by rw [gAdd_in h] <;> rfl)
      · have els : ls = [] := by
          cases ls with
          | nil => rfl
          | cons a r => cases hne
        subst els
        refine s_ret (ev_var rfl) fun H6 e6 => q d H6 g (eH.trans (e5.trans e6)) ?_ ⟨hgo, hval, fun x s he hs => (hcl x s he hs).resolve_right List.not_mem_nil⟩
        obtain ⟨kvs, k1, k2, k3⟩ := (hd.exx (e5.trans e6)).ex
        exact ⟨kvs, k1, by omega, k3⟩
end
end S
end

section
set_option Elab.async false
set_option linter.all false
set_option autoImplicit false
set_option maxRecDepth 100000
set_option maxHeartbeats 4000000
namespace S
open PySem PySem.Spec PyProof.Rows L2 Evl
section
variable {P : Program} {w : World} {K : PySem.W.Frag} {mg : Str → Option Value} {base : Heap}
/-! ### check_parts -/
theorem sc_check_parts : FnScope ["count"] ["count"] (defScope (top 22)) := ⟨rfl, rfl, rfl, by decide +kernel, rfl, by decide +kernel, by decide +kernel⟩
-- slots: 0 count

def ePt (K : PySem.W.Frag) (n : Int) (E : XK) (H : Hp) : Prop := ∀ d H', H d = none → H' = upd H d (.xd [(("count" : Str), .int n)]) → E (.ref (He.ga K "TooManyParts")) (some d) H'
def spParts (K : PySem.W.Frag) : Sp := fun vs H Q E => ∃ n : Int, vs = [.int n] ∧ ∀ H', Ex H H' → (n ≤ 100 → Q .non H') ∧ (100 < n → ePt K n E H')
theorem ok_check_parts (T : Txt K mg) (hP : PrgOk P) : Good P w K mg base (L2.CX P w) 1 "check_parts" ["count"] (spParts K) := by
  obtain ⟨tM, hMOST_PARTS⟩ := T.m_MOST_PARTS
  refine Good.ofX T (j := 11) (i := 22) rfl rfl sc_check_parts (fun _ _ _ _ _ _ us hl => match us, hl with | [_], _ => rfl) (fun vs H Q E h => ?_) (fun cdv A outer s H vs Q E hr h => ?_)
  · obtain ⟨n, rfl, _⟩ := h
    rfl
  · obtain ⟨n, rfl, q⟩ := h
    refine ⟨_, (pss_one (ps_if (pt_cmpR op_gt (pv 0) (pe_glob (v := .int (100)) rfl hMOST_PARTS ⟨_, rfl⟩) (nomark _))
(pss_one (ps_raisePt rfl T.pt hP (T.glo _ hTP) T.m_super hr (takes_of rfl rfl rfl rfl) (pa_cons (pv 0) pa_nil))) pss_nil)), ?_⟩
    refine s_if (b := decide ((100 : Int) < n)) (et_test (ev_op (ev_var rfl) ev_c rv_I0)) (fun hb H1 e1 => ?_) (fun hb H1 e1 => (q H1 e1).1 (by have := of_decide_eq_false hb; omega))
    exact ⟨.int n, rfl, .int n, rfl, fun d hd => (q H1 e1).2 (of_decide_eq_true hb) d _ hd rfl⟩
/-! ### price_of, _law_priced -/
theorem pV_pr {F : Fam} {n : Nat} {x : Var} (h : F.vs[n]? = some x) (hp : x.price.isSome = true) : pV x.price = V.int (prN F n) := by
  unfold prN
  rw [h]
  cases e : x.price with
  | none => rw [e] at hp; cases hp
  | some p =>
    show pV (some p) = V.int (match x.price with
      | some p => (p : Int)
      | none => 0)
    rw [e] <;> rfl
def TreeAt (H : Hp) (p : Addr) (F : Fam) (ns : List Nat) : Prop := H p = some (.tup (ns.map nV)) ∧ ns.length ≤ 1000 ∧ ∀ n ∈ ns, ∃ x, F.vs[n]? = some x ∧ x.price.isSome = true
theorem TreeAt.ex {H H' : Hp} {p : Addr} {F : Fam} {ns : List Nat} (h : TreeAt H p F ns) (e : Ex H H') : TreeAt H' p F ns := ⟨e _ _ h.1, h.2⟩
def spPrice : Sp := fun vs H Q _ => ∃ (f : Addr) (L : Lay) (F : Fam) (p : Addr) (ns : List Nat), vs = [.ref f, .ref p] ∧ FamAt H f L F ∧ TreeAt H p F ns ∧ ∀ H', Ex H H' → Q (.int (prS F ns)) H'
theorem ev_prices {σ : L2.St} {H : Hp} {f : Addr} {L : Lay} {F : Fam} {ns : List Nat} {tl tf tn : TE} {j : Nat} {vs : List Nat} (hF : FamAt H f L F) (ht : ET tl σ H (ns.map nV)) (hz : ns.length ≤ 1000) (hv : ∀ n ∈ ns, ∃ x, F.vs[n]? = some x ∧ x.price.isSome = true)
    (h1 : ∀ x H1, Ev tf ((wipe σ vs).set j (some x)) H1 (.ref f)) (h2 : ∀ x H1, Ev tn ((wipe σ vs).set j (some x)) H1 x) (hw : ∀ x, wipe ((wipe σ vs).set j (some x)) vs = wipe σ vs := by intro _; rfl) :
    Ev (tCB (rSum K) (tCons (tLc (iTup K tl) (gName j) tYes (tOp (rIxT K) (tOp (rIxT K) (tOp (rIxT K) tf (tC (.int 2))) tn) (tC (.int 2))) vs) tNil)) σ H (.int (prS F ns)) := by
  refine ev_sumN ?_
  have z := el_lcT (K := K) (σ := σ) (H := H) (tl := tl) (te := tOp (rIxT K) (tOp (rIxT K) (tOp (rIxT K) tf (tC (.int 2))) tn) (tC (.int 2))) (t := tYes) (j := j) (vs := vs) ns nV (fun _ => true) (fun n => V.int (prN F n)) ht (by omega)
    (fun _ _ _ _ => et_yes) (fun n hn _ H1 e => by
      obtain ⟨x, hx, hp⟩ := hv n hn
      have hF1 := hF.ex e
      rw [← pV_pr hx hp]
      exact ev_v2 (ev_ixT (ev_f2 (h1 _ _) hF1) (h2 _ _) hF1.h2 (FamAt.at F L (get_lt hx))) (hF1.h3 n x hx)) hw
  rw [filter_true] at z
  rw [List.map_map]
  exact z
theorem sc_price_of : FnScope ["family", "tree", "number"] ["family", "tree"] (defScope (top 25)) := ⟨rfl, rfl, rfl, by decide +kernel, rfl, by decide +kernel, by decide +kernel⟩
-- slots: 0 family, 1 tree, 2 number

theorem ok_price_of (T : Txt K mg) : Good P w K mg base CX0 1 "price_of" ["family", "tree"] spPrice := by
  refine Good.of T (j := 14) (i := 25) rfl rfl sc_price_of (fun _ _ _ _ _ _ us hl => match us, hl with | [_, _], _ => rfl) (fun vs H Q E h => ?_) (fun cdv A outer s H vs Q E hr h => ?_)
  · obtain ⟨f, L, F, p, ns, rfl, _⟩ := h
    rfl
  · obtain ⟨f, L, F, p, ns, rfl, hF, ht, q⟩ := h
    refine ⟨_, (pss_one (ps_ret (pe_callB (cr_sum rfl) (by rfl) T.m_sum (by decide +kernel) (pa_cons (pe_lc (own := [("number", 2)]) rfl sc_price_of.nd (pi_tup (pv 1)) (blkOk_by (own := [("number", 2)]) (N := ["family", "tree", "number"]) (sc := defScope (top 25)) (by decide +kernel)) (fun _ _ _ _ _ => (pg_name (i := 2) sc_price_of.nd rfl (.inl rfl))) (fun _ _ _ _ _ => pts_nil) (fun _ _ _ _ _ => (pe_ix (k_ixT (K := K) rfl) (pe_ix (k_ixT (K := K) rfl) (pe_ix (k_ixT (K := K) rfl) (pv 0) pe_int (fun _ _ => rfl)) (pv 2) (fun _ _ => rfl)) pe_int (fun _ _ => rfl)))) pa_nil)))), ?_⟩
    exact s_ret (ev_prices hF (et_of (ev_var rfl) ht.1) ht.2.1 ht.2.2 (fun _ _ => ev_var rfl) (fun _ _ => ev_var rfl)) fun H1 e1 => q H1 e1
theorem sc_law_priced : FnScope ["_law_family_here", "_law_tree", "_law_number"] ["_law_family_here", "_law_tree"] (defScope (top 50)) := ⟨rfl, rfl, rfl, by decide +kernel, rfl, by decide +kernel, by decide +kernel⟩
-- slots: 0 _law_family_here, 1 _law_tree, 2 _law_number

theorem ok_law_priced (T : Txt K mg) : Good P w K mg base CX0 1 "_law_priced" ["_law_family_here", "_law_tree"] spPrice := by
  refine Good.of T (j := 36) (i := 50) rfl rfl sc_law_priced (fun _ _ _ _ _ _ us hl => match us, hl with | [_, _], _ => rfl) (fun vs H Q E h => ?_) (fun cdv A outer s H vs Q E hr h => ?_)
  · obtain ⟨f, L, F, p, ns, rfl, _⟩ := h
    rfl
  · obtain ⟨f, L, F, p, ns, rfl, hF, ht, q⟩ := h
    refine ⟨_, (pss_one (ps_ret (pe_callB (cr_sum rfl) (by rfl) T.m_sum (by decide +kernel) (pa_cons (pe_lc (own := [("_law_number", 2)]) rfl sc_law_priced.nd (pi_tup (pv 1)) (blkOk_by (own := [("_law_number", 2)]) (N := ["_law_family_here", "_law_tree", "_law_number"]) (sc := defScope (top 50)) (by decide +kernel)) (fun _ _ _ _ _ => (pg_name (i := 2) sc_law_priced.nd rfl (.inl rfl))) (fun _ _ _ _ _ => pts_nil) (fun _ _ _ _ _ => (pe_ix (k_ixT (K := K) rfl) (pe_ix (k_ixT (K := K) rfl) (pe_ix (k_ixT (K := K) rfl) (pv 0) pe_int (fun _ _ => rfl)) (pv 2) (fun _ _ => rfl)) pe_int (fun _ _ => rfl)))) pa_nil)))), ?_⟩
    exact s_ret (ev_prices hF (et_of (ev_var rfl) ht.1) ht.2.1 ht.2.2 (fun _ _ => ev_var rfl) (fun _ _ => ev_var rfl)) fun H1 e1 => q H1 e1
/-! ### is_tree -/
theorem sc_is_tree : FnScope ["family", "state", "tree", "variants", "wanted", "number", "plug", "slots", "price"] ["family", "state", "tree"] (defScope (top 23)) := ⟨rfl, rfl, rfl, by decide +kernel, rfl, by decide +kernel, by decide +kernel⟩
-- slots: 0 family, 1 state, 2 tree, 3 variants, 4 wanted, 5 number, 6 plug, 7 slots, 8 price

def spIsTree : Sp := fun vs H Q _ => ∃ (f : Addr) (L : Lay) (F : Fam) (p : Addr) (s : Nat) (ns : List Nat), vs = [.ref f, nV s, .ref p] ∧ FamAt H f L F ∧ H p = some (.tup (ns.map nV)) ∧ ns.length ≤ 1000 ∧ ∀ H' b, Ex H H' → (b = true ↔ Fo F [s] ns) → Q (.bl b) H'
theorem ok_is_tree (T : Txt K mg) : Good P w K mg base CX0 1 "is_tree" ["family", "state", "tree"] spIsTree := by
  refine Good.of T (j := 12) (i := 23) rfl rfl sc_is_tree (fun _ _ _ _ _ _ us hl => match us, hl with | [_, _, _], _ => rfl) (fun vs H Q E h => ?_) (fun cdv A outer s H vs Q E hr h => ?_)
  · obtain ⟨f, L, F, p, s, ns, rfl, _⟩ := h
    rfl
  · obtain ⟨f, L, F, p, s, ns, rfl, hF, hp, hz, q⟩ := h
    refine ⟨_, (pss_cons (ps_set (i := 3) sc_is_tree.nd rfl (.inl rfl) (pe_ix ix_tup (pv 0) pe_int (fun _ _ => rfl)))
(pss_cons (ps_set (i := 4) sc_is_tree.nd rfl (.inl rfl) (pe_lst (pa_cons (pv 1) pa_nil)))
(pss_cons (ps_for PassesOwn.never rfl (pi_tup (pv 2)) (pg_name (i := 5) sc_is_tree.nd rfl (.inl rfl))
(pss_cons (ps_if (PW.pt (pw_or (pt_not (pt_tru (pv 4) (by intro _; rfl))) (pw_or (pt_cmpR op_lt (pv 5) pe_int (nomark _)) (pw_or1 (pt_cmpR op_ge (pv 5) (pe_callB call_len_seq (by rfl) T.m_len PySem.boot_len (pa_cons (pv 3) pa_nil)) (nomark _))))))
(pss_one (ps_ret pe_bl)) pss_nil)
(pss_cons (ps_asg (pe_ix ix_tup (pv 3) (pv 5) (fun _ _ => rfl)) (pg_tup (by rfl) (pgs_cons (pg_name (i := 6) sc_is_tree.nd rfl (.inl rfl)) (pgs_cons (pg_name (i := 7) sc_is_tree.nd rfl (.inl rfl)) (pgs_cons (pg_name (i := 8) sc_is_tree.nd rfl (.inl rfl)) pgs_nil)))))
(pss_cons (ps_if (PW.pt (pw_or (pt_cmpR op_isN (pv 8) pe_non (nomark _)) (pw_or1 (pt_cmpR op_ne (pv 6) (pe_bm0 PySem.F.plainAttrs_list PySem.F.slot_list_pop PySem.F.type_list_pop mt_pop (pv 4)) (nomark _)))))
(pss_one (ps_ret pe_bl)) pss_nil)
(pss_one (ps_expr (pe_bm PySem.F.plainAttrs_list PySem.F.slot_list_extend PySem.F.type_list_extend mt_extendT (pv 4) (pa_cons (pe_revT (pv 7)) pa_nil))))))))
(pss_one (ps_ret (pe_cmpR (op_eqD hr.units) (pv 4) (pe_lst pa_nil) (nomark _))))))), ?_⟩
    have ok := hF.ok
    refine s_asg (ev_f2 (ev_var rfl) hF) fun H1 e1 => ?_
    refine s_asgL (el_lst (ea_cons (ev_var rfl) ea_nil) (by show 1 ≤ 100000; decide)) fun b H2 nb e2 hb => ?_
    have e12 := e1.trans e2
    have nbH := fresh_back e1 nb
    refine s_forT (ev_var rfl) (SqT.of (e12 _ _ hp)) (fun i σ' H' => ∃ (ws : List Nat) (y5 y6 y7 y8 : Option V), σ' = [some (.ref f), some (nV s), some (.ref p), some (.ref L.b), some (.ref b), y5, y6, y7, y8] ∧ Ex H H' ∧ H' b = some (.lst (ws.reverse.map nV)) ∧ ws.length ≤ 1 + 3 * i ∧ (Fo F [s] ns ↔ Fo F ws (ns.drop i)))
      (fun H3 e3 => ⟨[s], none, none, none, none, rfl, e12.trans e3, e3 _ _ hb, Nat.le_refl _, by rw [List.drop_zero]⟩) (fun i σ' H' _ hW => SqT.of (by obtain ⟨_, _, _, _, _, _, z, _⟩ := hW; exact z _ _ hp)) (fun i x σ' H3 hx hW => ?_) (fun σ' H3 hW => ?_)
    · obtain ⟨ws, y5, y6, y7, y8, rfl, eH, hb3, hwl, hiff⟩ := hW
      obtain ⟨n, hn, rfl⟩ := map_get hx
      have hil := get_lt hn
      have hdr : ns.drop i = n :: ns.drop (i + 1) := by
        obtain ⟨h1, h2⟩ := List.getElem?_eq_some_iff.mp hn
        rw [← h2]
        exact List.drop_eq_getElem_cons h1
      rw [hdr] at hiff
      have hF3 := hF.ex eH
      have hn0 : decide ((n : Int) < 0) = false := decide_eq_false (by omega)
      refine s_if (b := (!(!(ws.reverse.map nV).isEmpty)) || (decide ((n : Int) < 0) || decide (((((List.range F.vs.length).map fun i => V.ref (L.va i)).length : Nat) : Int) ≤ (n : Int)))) (et_or (et_not (et_lst (ev_var rfl) hb3)) fun _ => et_or (et_test (ev_op (ev_var rfl) ev_c rv_I0)) fun _ => et_test (ev_op (ev_var rfl) (ev_lenT (et_of (ev_var rfl) hF3.h2)) rv_I0)) (fun hb4 H4 e4 => ?_) (fun hb4 H4 e4 => ?_)
      · refine s_ret ev_c fun H5 e5 => q H5 false (eH.trans (e4.trans e5)) ⟨(fun z => nomatch z), fun hfo => ?_⟩
        have h1 := hiff.mp hfo
        rw [hn0, Bool.false_or, List.length_map, List.length_range] at hb4
        rcases Bool.or_eq_true_iff.mp hb4 with h2 | h2
        · cases ws with
          | nil => have := h1.nil_inv; cases this
          | cons a r =>
            have : ((a :: r).reverse.map nV).isEmpty = true := by simpa using h2
            simp at this
        · have h3 := of_decide_eq_true h2
          obtain ⟨x, hx, _⟩ := h1.valid n List.mem_cons_self
          have := get_lt hx
          omega
      · rw [hn0, Bool.false_or, List.length_map, List.length_range] at hb4
        obtain ⟨h1, h2⟩ := Bool.or_eq_false_iff.mp hb4
        have h3 := of_decide_eq_false h2
        have hnl : n < F.vs.length := by omega
        obtain ⟨x, hxv⟩ : ∃ x, F.vs[n]? = some x := ⟨_, List.getElem?_eq_getElem hnl⟩
        obtain ⟨wp, wr, hw⟩ : ∃ wp wr, ws = wp :: wr := by
          cases ws with
          | nil => cases h1
          | cons a r => exact ⟨a, r, rfl⟩
        subst hw
        have hF4 := hF3.ex e4
        refine s_asg3 (et_of (ev_ixT (ev_var rfl) (ev_var rfl) hF4.h2 (FamAt.at F L hnl)) (hF4.h3 n x hxv).h) fun H5 e5 => ?_
        have hv5 := (hF4.ex e5).h3 n x hxv
        have hb5 := e5 _ _ (e4 _ _ hb3)
        rw [List.reverse_cons, List.map_append] at hb5
        have hrev : (x.slots.map nV).reverse = (x.slots.reverse).map nV := (List.map_reverse).symm
        refine s_ifOr (et_test (ev_isN (ev_var rfl))) (fun hb6 H6 e6 => ?_) (fun hb6 H6 e6 => ?_)
        · have hpr : x.price = none := by
            cases z : x.price with
            | none => rfl
            | some pr =>
              rw [z] at hb6
              have := of_decide_eq_true hb6
              cases this
          refine s_ret ev_c fun H7 e7 => q H7 false (eH.trans (e4.trans (e5.trans (e6.trans e7)))) ⟨(fun z => nomatch z), fun hfo => ?_⟩
          obtain ⟨y, hy, hy2, _⟩ := (hiff.mp hfo).inv
          rw [hxv] at hy
          rw [← Option.some.inj hy, hpr] at hy2
          cases hy2
        · have hpr : x.price.isSome = true := by
            cases z : x.price with
            | none =>
              rw [z] at hb6
              have := of_decide_eq_false hb6
              exact absurd rfl this
            | some pr => rfl
          refine tt_nePop (ev_var rfl) (e6 _ _ hb5) (ev_var rfl) rfl fun H7 e7 => ?_
          have eH7 := eH.trans (e4.trans (e5.trans (e6.trans e7)))
          by_cases hpw : x.plug = wp
          · subst hpw
            rw [decide_eq_true rfl]
            refine s_extT (zs := x.slots.reverse.map nV) upd_same (ev_var rfl) (by rw [← hrev]; exact et_rev (et_of (ev_var rfl) ((Ex.mut eH7 nbH) _ _ (hF.h3 n x hxv).hs))) (by
              have := ok.s3 x (get_mem hxv)
              rw [List.length_map, List.length_map, List.length_reverse, List.length_reverse]
              rw [List.length_cons] at hwl
              omega) fun H8 e8 => ?_
            refine ⟨x.slots ++ wr, _, _, _, _, rfl, Ex.mut ((Ex.mut eH7 nbH).trans e8) nbH, by rw [upd_same, List.reverse_append, List.map_append], ?_, hiff.trans ⟨fun h => ?_, fun h => .cons hxv hpr h⟩⟩
            · have := ok.s3 x (get_mem hxv)
              rw [List.length_cons] at hwl
              rw [List.length_append]
              omega
            · obtain ⟨y, hy, _, _, h5⟩ := h.inv
              rw [hxv] at hy
              rw [Option.some.inj hy]
              exact h5
          · have hne : ¬ (nV x.plug = nV wp) := fun z => hpw (by
              have := V.int.inj z
              omega)
            rw [decide_eq_false hne]
            refine s_ret ev_c fun H8 e8 => q H8 false ((Ex.mut eH7 nbH).trans e8) ⟨(fun z => nomatch z), fun hfo => ?_⟩
            obtain ⟨y, hy, _, hy3, _⟩ := (hiff.mp hfo).inv
            rw [hxv] at hy
            rw [← Option.some.inj hy] at hy3
            exact absurd hy3 hpw
    · obtain ⟨ws, y5, y6, y7, y8, rfl, eH, hb3, hwl, hiff⟩ := hW
      rw [List.length_map, List.drop_length] at hiff
      refine s_ret (ev_eqNil (ev_var rfl) hb3 (el_lst ea_nil (by decide))) fun H4 e4 => q H4 _ (eH.trans e4) ?_
      rw [hiff]
      cases ws with
      | nil => exact ⟨fun _ => .nil, fun _ => rfl⟩
      | cons a r =>
        constructor
        · intro z
          have : (a :: r).reverse = [] := List.isEmpty_iff.mp z
          simp at this
        · intro z
          cases z
/-! ### is_product -/
theorem sc_is_product : FnScope ["family", "tree", "root"] ["family", "tree"] (defScope (top 24)) := ⟨rfl, rfl, rfl, by decide +kernel, rfl, by decide +kernel, by decide +kernel⟩
-- slots: 0 family, 1 tree, 2 root

def spIsProd : Sp := fun vs H Q _ => ∃ (f : Addr) (L : Lay) (F : Fam) (p : Addr) (ns : List Nat), vs = [.ref f, .ref p] ∧ FamAt H f L F ∧ H p = some (.tup (ns.map nV)) ∧ ns.length ≤ 1000 ∧ (∃ r ∈ F.roots, Fo F [r] ns) ∧ ∀ H', Ex H H' → Q (.bl true) H'
theorem ok_is_product (T : Txt K mg) : Good P w K mg base CX0 2 "is_product" ["family", "tree"] spIsProd := by
  have G_is_tree : Good P w K mg base CX0 1 "is_tree" ["family", "state", "tree"] spIsTree := ok_is_tree T
  refine Good.of T (j := 13) (i := 24) rfl rfl sc_is_product (fun _ _ _ _ _ _ us hl => match us, hl with | [_, _], _ => rfl) (fun vs H Q E h => ?_) (fun cdv A outer s H vs Q E hr h => ?_)
  · obtain ⟨f, L, F, p, ns, rfl, _⟩ := h
    rfl
  · obtain ⟨f, L, F, p, ns, rfl, hF, hp, hz, ⟨r, hr1, hr2⟩, q⟩ := h
    refine ⟨_, (pss_one (ps_ret (pe_callB (cr_any rfl) (by rfl) T.m_any (by decide +kernel) (pa_cons (pe_lc (own := [("root", 2)]) rfl sc_is_product.nd (pi_tup (pe_ix ix_tup (pv 0) pe_int (fun _ _ => rfl))) (blkOk_by (own := [("root", 2)]) (N := ["family", "tree", "root"]) (sc := defScope (top 24)) (by decide +kernel)) (fun _ _ _ _ _ => (pg_name (i := 2) sc_is_product.nd rfl (.inl rfl))) (fun _ _ _ _ _ => pts_nil) (fun _ _ _ _ _ => (pe_c G_is_tree hr (pa_cons (pv 0) (pa_cons (pv 2) (pa_cons (pv 1) pa_nil)))))) pa_nil)))), ?_⟩
    have ok := hF.ok
    classical
    have key : Ev (tCB (rAny K) (tCons (tLc (iTup K (tOp (rIxT K) (tVar 0) (tC (.int 1)))) (gName 2) tYes (tCall spIsTree [] E0 (tCons (tVar 0) (tCons (tVar 2) (tCons (tVar 1) tNil)))) [2]) tNil)) [some (.ref f), some (.ref p), none] H (.bl ((F.roots.map fun r => decide (Fo F [r] ns)).any id)) := by
      refine ev_anyN ?_
      have z := el_lcT (K := K) (σ := [some (.ref f), some (.ref p), none]) (H := H) (tl := tOp (rIxT K) (tVar 0) (tC (.int 1))) (te := tCall spIsTree [] E0 (tCons (tVar 0) (tCons (tVar 2) (tCons (tVar 1) tNil)))) (t := tYes) (j := 2) (vs := [2]) F.roots nV (fun _ => true) (fun r => V.bl (decide (Fo F [r] ns))) (et_of (ev_f1 (ev_var rfl) hF) hF.h1) (by have := nodup_le ok.rn ok.rl; have := ok.c4; omega)
        (fun _ _ _ _ => et_yes) (fun r hr _ H1 e => fun H2 e2 Q q => (ea_cons (ev_var rfl) (ea_cons (ev_var rfl) (ea_cons (ev_var rfl) ea_nil))) H2 e2 _ fun H3 e3 => by
          have eH := e.trans (e2.trans e3)
          refine ⟨f, L, F, p, r, ns, rfl, hF.ex eH, eH _ _ hp, hz, fun H4 b e4 hb => ?_⟩
          have : b = decide (Fo F [r] ns) := by
            rw [Bool.eq_iff_iff, hb]
            simp
          rw [this]
          exact q H4 (e3.trans e4))
      rw [filter_true] at z
      rw [List.map_map]
      exact z
    refine s_ret key fun H1 e1 => ?_
    have : (F.roots.map fun r => decide (Fo F [r] ns)).any id = true := List.any_eq_true.mpr ⟨_, List.mem_map_of_mem hr1, decide_eq_true hr2⟩
    rw [this]
    exact q H1 e1
/-! ### span_of, _law_span -/
def spSpan : Sp := fun vs H Q _ => ∃ (f : Addr) (L : Lay) (F : Fam) (p : Addr) (s : Nat) (a u b : List Nat), vs = [.ref f, .ref p, nV a.length] ∧ FamAt H f L F ∧ H p = some (.tup ((a ++ u ++ b).map nV)) ∧ (a ++ u ++ b).length ≤ 1000 ∧ Fo F [s] u ∧ ∀ H', Ex H H' → Q (nV u.length) H'
theorem at_mid (a c r b : List Nat) (n : Nat) : (a ++ (c ++ n :: r) ++ b)[a.length + c.length]? = some n := by
  rw [List.append_assoc, List.getElem?_append_right (by omega), List.append_assoc, List.getElem?_append_right (by omega)]
  have : a.length + c.length - a.length - c.length = 0 := by omega
  rw [this] <;> rfl
theorem sc_span_of : FnScope ["family", "tree", "number", "wanted", "end"] ["family", "tree", "number"] (defScope (top 26)) := ⟨rfl, rfl, rfl, by decide +kernel, rfl, by decide +kernel, by decide +kernel⟩
-- slots: 0 family, 1 tree, 2 number, 3 wanted, 4 end

theorem ok_span_of (T : Txt K mg) : Good P w K mg base CX0 1 "span_of" ["family", "tree", "number"] spSpan := by
  refine Good.of T (j := 15) (i := 26) rfl rfl sc_span_of (fun _ _ _ _ _ _ us hl => match us, hl with | [_, _, _], _ => rfl) (fun vs H Q E h => ?_) (fun cdv A outer s H vs Q E hr h => ?_)
  · obtain ⟨f, L, F, p, s, a, u, b, rfl, _⟩ := h
    rfl
  · obtain ⟨f, L, F, p, s, a, u, b, rfl, hF, hp, hz, hu, q⟩ := h
    refine ⟨_, (pss_cons (ps_set (i := 3) sc_span_of.nd rfl (.inl rfl) pe_int)
(pss_cons (ps_set (i := 4) sc_span_of.nd rfl (.inl rfl) (pv 2))
(pss_cons (ps_while PassesOwn.never (pt_cmpR op_gt (pv 3) pe_int (nomark _))
(pss_cons (ps_aug (i := 3) sc_span_of.nd rfl (.inl rfl) (pe_op op_sub (pe_callB call_len_seq (by rfl) T.m_len PySem.boot_len (pa_cons (pe_ix ix_tup (pe_ix ix_tup (pe_ix ix_tup (pv 0) pe_int (fun _ _ => rfl)) (pe_ix ix_tup (pv 1) (pv 4) (fun _ _ => rfl)) (fun _ _ => rfl)) pe_int (fun _ _ => rfl)) pa_nil)) pe_int) ip_add)
(pss_one (ps_aug (i := 4) sc_span_of.nd rfl (.inl rfl) pe_int ip_add))))
(pss_one (ps_ret (pe_op op_sub (pv 4) (pv 2))))))), ?_⟩
    refine s_asg ev_c fun H1 e1 => ?_
    refine s_asg (ev_var rfl) fun H2 e2 => ?_
    refine s_while (fun m σ' H' => ∃ (ws c r : List Nat), σ' = [some (.ref f), some (.ref p), some (nV a.length), some (nV ws.length), some (nV (a.length + c.length))] ∧ Ex H H' ∧ u = c ++ r ∧ Fo F ws r ∧ m = r.length) _
      ⟨[s], [], u, rfl, e1.trans e2, rfl, hu, rfl⟩ (fun m σ' H' hW => ?_)
    obtain ⟨ws, c, r, rfl, eH, hcr, hfo, rfl⟩ := hW
    refine ⟨decide ((0 : Int) < (ws.length : Int)), et_test (ev_op (ev_var rfl) ev_c rv_I0), fun hne H5 e5 => ⟨_, fun σ2 H2 z => z, ?_⟩, fun hne H5 e5 => ?_⟩
    · obtain ⟨wp, wr, rfl⟩ : ∃ wp wr, ws = wp :: wr := by
        cases ws with
        | nil => exact absurd (of_decide_eq_true hne) (by show ¬ ((0 : Int) < ((0 : Nat) : Int)); omega)
        | cons a r => exact ⟨a, r, rfl⟩
      obtain ⟨n, r', x, rfl, hx, hpr, hpl, hfo'⟩ := hfo.inv'
      have hF5 := hF.ex (eH.trans e5)
      have hi : (((a ++ u ++ b).map nV))[a.length + c.length]? = some (nV n) := get_map (by rw [hcr]; exact at_mid a c r' b n)
      refine s_aug (a := ((wp :: wr).length : Int)) (b := (x.slots.length : Int) - 1) rfl (ev_op (ev_is (ev_lenT (et_of (ev_v1 (ev_ixT (ev_f2 (ev_var rfl) hF5) (ev_ixT (ev_var rfl) (ev_var rfl) ((eH.trans e5) _ _ hp) hi) hF5.h2 (FamAt.at F L (get_lt hx))) (hF5.h3 n x hx)) (hF5.h3 n x hx).hs)) (by rw [List.length_map] <;> rfl)) ev_c rv_I0) fun H6 e6 => ?_
      refine s_aug (a := ((a.length + c.length : Nat) : Int)) (b := 1) rfl ev_c fun H7 e7 => ?_
      refine ⟨r'.length, by rw [List.length_cons]; omega, x.slots ++ wr, c ++ [n], r', ?_, (eH.trans e5).trans (e6.trans e7), by rw [hcr, List.append_assoc] <;> rfl, hfo', rfl⟩
      have i1 : ((wp :: wr).length : Int) + ((x.slots.length : Int) - 1) = (((x.slots ++ wr).length : Nat) : Int) := by
        rw [List.length_append, List.length_cons]
        omega
      have i2 : ((a.length + c.length : Nat) : Int) + 1 = ((a.length + (c ++ [n]).length : Nat) : Int) := by
        rw [List.length_append]
        show _ = ((a.length + (c.length + 1) : Nat) : Int)
        omega
      show [some (V.ref f), some (V.ref p), some (nV a.length), some (V.int _), some (V.int _)] = _
      rw [i1, i2] <;> rfl
    · have hw : ws = [] := by
        cases ws with
        | nil => rfl
        | cons a r => exact absurd (of_decide_eq_false hne) (by show ¬ ¬ ((0 : Int) < ((r.length + 1 : Nat) : Int)); omega)
      subst hw
      have := hfo.nil_inv
      subst this
      rw [List.append_nil] at hcr
      subst hcr
      refine s_ret (ev_is (ev_op (ev_var rfl) (ev_var rfl) rv_I0) (by show V.int _ = V.int _; congr 1; omega)) fun H6 e6 => q H6 (eH.trans (e5.trans e6))
theorem sc_law_span : FnScope ["_law_family_here", "_law_tree", "_law_number", "_law_need", "_law_span_here", "_law_part"] ["_law_family_here", "_law_tree", "_law_number"] (defScope (top 54)) := ⟨rfl, rfl, rfl, by decide +kernel, rfl, by decide +kernel, by decide +kernel⟩
-- slots: 0 _law_family_here, 1 _law_tree, 2 _law_number, 3 _law_need, 4 _law_span_here, 5 _law_part

theorem ok_law_span (T : Txt K mg) : Good P w K mg base CX0 1 "_law_span" ["_law_family_here", "_law_tree", "_law_number"] spSpan := by
  refine Good.of T (j := 40) (i := 54) rfl rfl sc_law_span (fun _ _ _ _ _ _ us hl => match us, hl with | [_, _, _], _ => rfl) (fun vs H Q E h => ?_) (fun cdv A outer s H vs Q E hr h => ?_)
  · obtain ⟨f, L, F, p, s, a, u, b, rfl, _⟩ := h
    rfl
  · obtain ⟨f, L, F, p, s, a, u, b, rfl, hF, hp, hz, hu, q⟩ := h
    refine ⟨_, (pss_cons (ps_set (i := 3) sc_law_span.nd rfl (.inl rfl) pe_int)
(pss_cons (ps_set (i := 4) sc_law_span.nd rfl (.inl rfl) pe_int)
(pss_cons (ps_for PassesOwn.never rfl (pi_tup (pe_slice sl_tupA (pv 1) (po_some (pv 2)) po_none)) (pg_name (i := 5) sc_law_span.nd rfl (.inl rfl))
(pss_cons (ps_if (pt_cmpR op_eq (pv 3) pe_int (nomark _))
(pss_one (ps_break)) pss_nil)
(pss_cons (ps_set (i := 3) sc_law_span.nd rfl (.inl rfl) (pe_op op_add (pe_op op_sub (pv 3) pe_int) (pe_callB call_len_seq (by rfl) T.m_len PySem.boot_len (pa_cons (pe_ix ix_tup (pe_ix ix_tup (pe_ix ix_tup (pv 0) pe_int (fun _ _ => rfl)) (pv 5) (fun _ _ => rfl)) pe_int (fun _ _ => rfl)) pa_nil))))
(pss_one (ps_set (i := 4) sc_law_span.nd rfl (.inl rfl) (pe_op op_add (pv 4) pe_int))))))
(pss_one (ps_ret (pv 4)))))), ?_⟩
    refine s_asg ev_c fun H1 e1 => ?_
    refine s_asg ev_c fun H2 e2 => ?_
    have e12 := e1.trans e2
    refine s_forE (etu_is (et_slice (et_of (ev_var rfl) (e12 _ _ hp)) (ep_some (ev_var rfl)) ep_none) (cut_from (a ++ u ++ b) a.length)) fun ad H3 e3 hx3 => ?_
    have hdrop : (a ++ u ++ b).drop a.length = u ++ b := by rw [List.append_assoc, List.drop_left]
    rw [hdrop] at hx3 ⊢
    refine ⟨fun i σ' H' => ∃ (ws : List Nat) (y5 : Option V), σ' = [some (.ref f), some (.ref p), some (nV a.length), some (nV ws.length), some (nV i), y5] ∧ Ex H H' ∧ H' ad = some (.tup ((u ++ b).map nV)) ∧ i ≤ u.length ∧ Fo F ws (u.drop i),
      ⟨[s], none, rfl, e12.trans e3, hx3, Nat.zero_le _, hu⟩, fun i σ' H' _ hW => SqT.of (by obtain ⟨_, _, _, _, z, _⟩ := hW; exact z), fun i x σ' H4 hx hW => ?_, fun σ' H4 hW => ?_⟩
    · obtain ⟨ws, y5, rfl, eH, had, hil, hfo⟩ := hW
      obtain ⟨n, hn, rfl⟩ := map_get hx
      refine s_if (b := decide (nV ws.length = V.int 0)) (et_test (ev_op (ev_var rfl) ev_c (rv_eq rfl))) (fun hb5 H5 e5 => ?_) (fun hb5 H5 e5 => ?_)
      · have h0 : ws.length = 0 := by
          have := V.int.inj (of_decide_eq_true hb5)
          omega
        have hw : ws = [] := List.length_eq_zero_iff.mp h0
        subst hw
        have h1 := hfo.nil_inv
        have h2 : u.length ≤ i := List.drop_eq_nil_iff.mp h1
        have : i = u.length := by omega
        subst this
        exact s_ret (ev_var rfl) fun H6 e6 => q H6 (eH.trans (e5.trans e6))
      · have h0 : ¬ ws.length = 0 := fun z => (of_decide_eq_false hb5) (by rw [z] <;> rfl)
        obtain ⟨wp, wr, rfl⟩ : ∃ wp wr, ws = wp :: wr := by
          cases ws with
          | nil => exact absurd rfl h0
          | cons a r => exact ⟨a, r, rfl⟩
        obtain ⟨n', r', x, he, hx', hpr, hpl, hfo'⟩ := hfo.inv'
        have hlt : i < u.length := by
          have : (u.drop i).length = r'.length + 1 := by rw [he] <;> rfl
          rw [List.length_drop] at this
          omega
        have hnn : n = n' := by
          rw [List.getElem?_append_left hlt] at hn
          have : (u.drop i)[0]? = some n' := by rw [he] <;> rfl
          rw [List.getElem?_drop, Nat.add_zero, hn] at this
          exact Option.some.inj this
        subst hnn
        have hdr : u.drop (i + 1) = r' := by
          rw [← List.tail_drop, he] <;> rfl
        have hF5 := hF.ex (eH.trans e5)
        refine s_asg (ev_op (ev_op (ev_var rfl) ev_c rv_I0) (ev_is (ev_lenT (et_of (ev_v1 (ev_ixT (ev_f2 (ev_var rfl) hF5) (ev_var rfl) hF5.h2 (FamAt.at F L (get_lt hx'))) (hF5.h3 n x hx')) (hF5.h3 n x hx').hs)) (by rw [List.length_map] <;> rfl)) rv_I0) fun H6 e6 => ?_
        refine s_asg (ev_op (ev_var rfl) ev_c rv_I0) fun H7 e7 => ?_
        refine ⟨x.slots ++ wr, some (nV n), ?_, eH.trans (e5.trans (e6.trans e7)), e7 _ _ (e6 _ _ (e5 _ _ had)), hlt, by rw [hdr]; exact hfo'⟩
        have i1 : ((wp :: wr).length : Int) - 1 + (x.slots.length : Int) = (((x.slots ++ wr).length : Nat) : Int) := by
          rw [List.length_append, List.length_cons]
          omega
        have i2 : (i : Int) + 1 = ((i + 1 : Nat) : Int) := by omega
        show [some (V.ref f), some (V.ref p), some (nV a.length), some (V.int _), some (V.int _), some (nV n)] = _
        rw [i1, i2] <;> rfl
    · obtain ⟨ws, y5, rfl, eH, had, hil, hfo⟩ := hW
      rw [List.length_map, List.length_append] at hil
      have : ((u ++ b).map nV).length = u.length := by rw [List.length_map, List.length_append]; omega
      rw [this]
      exact s_ret (ev_var rfl) fun H6 e6 => q H6 (eH.trans e6)
end
end S
end

section
set_option Elab.async false
set_option linter.all false
set_option autoImplicit false
set_option maxRecDepth 100000
set_option maxHeartbeats 4000000
namespace S
open PySem PySem.Spec PyProof.Rows L2 Evl RT
section
variable {P : Program} {w : World} {K : PySem.W.Frag} {mg : Str → Option Value} {base : Heap}
theorem s_needPop {σ : L2.St} {H0 H : Hp} {b : Addr} {wr : List Nat} {pl k : Nat} {tk tn tx : TE} {tu : TS} {D : Ends} (e0 : Ex H0 H) (nb : H0 b = none) (hk : Ev tk σ H (nV k)) (hn : Ev tn σ H (.ref b)) (hx : ∀ H1, Ex H0 H1 → Ev tx σ H1 (nV pl))
    (h0 : k = 0 → H b = some (.lst (wr.reverse.map nV))) (hp : 0 < k → H b = some (.lst ((pl :: wr).reverse.map nV))) (go : ∀ H1, Ex H0 H1 → H1 b = some (.lst (wr.reverse.map nV)) → D.nx σ H1) :
    tIfS (tAnd (tTest (tOp (rI0 fun i j => .bl (decide (j < i))) tk (tC (.int 0)))) (tOr (tNot (tTrue K tn)) (tTest (tOp rNe (tBM0 K "list" rPop tn) tx)))) tu tNext D σ H := by
  refine s_ifAnd (et_test (ev_op hk ev_c rv_I0)) (fun hb H1 e1 => ?_) (fun hb H1 e1 => ?_)
  · have hpos : 0 < k := by
      have := of_decide_eq_true hb
      omega
    have hb1 := e1 _ _ (hp hpos)
    have e2 : ((pl :: wr).reverse.map nV) = wr.reverse.map nV ++ [nV pl] := by rw [List.reverse_cons, List.map_append] <;> rfl
    refine tt_or (et_not (et_lst (hn.mono e1) hb1)) (fun hb2 H2 e2' => ?_) (fun hb2 H2 e2' => ?_)
    · rw [e2] at hb2
      simp at hb2
    · rw [e2] at hb1
      refine tt_popNe (x := nV pl) (y := nV pl) (xs := wr.reverse.map nV) (e2' _ _ hb1) (hn.mono (e1.trans e2')) (fun H3 e3 => hx _ (Ex.mut (e0.trans (e1.trans (e2'.trans e3))) nb)) rfl fun H3 H4 e3 e4 => ?_
      rw [decide_eq_true rfl]
      exact go H4 ((Ex.mut (e0.trans (e1.trans (e2'.trans e3))) nb).trans e4) (e4 _ _ upd_same)
  · have hz : k = 0 := by
      have := of_decide_eq_false hb
      omega
    exact go H1 (e0.trans e1) (e1 _ _ (h0 hz))
theorem sc_law_product : FnScope ["_law_family_here", "_law_tree", "_law_need", "_law_k", "_law_state"] ["_law_family_here", "_law_tree"] (defScope (top 55)) := ⟨rfl, rfl, rfl, by decide +kernel, rfl, by decide +kernel, by decide +kernel⟩
-- slots: 0 _law_family_here, 1 _law_tree, 2 _law_need, 3 _law_k, 4 _law_state

theorem ok_law_product (T : Txt K mg) : Good P w K mg base CX0 1 "_law_product" ["_law_family_here", "_law_tree"] spIsProd := by
  refine Good.of T (j := 41) (i := 55) rfl rfl sc_law_product (fun _ _ _ _ _ _ us hl => match us, hl with | [_, _], _ => rfl) (fun vs H Q E h => ?_) (fun cdv A outer s H vs Q E hr h => ?_)
  · obtain ⟨f, L, F, p, ns, rfl, _⟩ := h
    rfl
  · obtain ⟨f, L, F, p, ns, rfl, hF, hp, hz, ⟨r, hr1, hr2⟩, q⟩ := h
    refine ⟨_, (pss_cons (ps_set (i := 2) sc_law_product.nd rfl (.inl rfl) (pe_lst pa_nil))
(pss_cons (ps_for PassesOwn.never rfl (pi_range1 (by rfl) T.m_range (pa_cons (pe_callB call_len_seq (by rfl) T.m_len PySem.boot_len (pa_cons (pv 1) pa_nil)) pa_nil)) (pg_name (i := 3) sc_law_product.nd rfl (.inl rfl))
(pss_cons (ps_if (PW.pt (pw_or (pt_cmpR op_lt (pe_ix ix_tup (pv 1) (pv 3) (fun _ _ => rfl)) pe_int (nomark _)) (pw_or (pt_cmpR op_ge (pe_ix ix_tup (pv 1) (pv 3) (fun _ _ => rfl)) (pe_callB call_len_seq (by rfl) T.m_len PySem.boot_len (pa_cons (pe_ix ix_tup (pv 0) pe_int (fun _ _ => rfl)) pa_nil)) (nomark _)) (pw_or1 (pt_cmpR op_isN (pe_ix ix_tup (pe_ix ix_tup (pe_ix ix_tup (pv 0) pe_int (fun _ _ => rfl)) (pe_ix ix_tup (pv 1) (pv 3) (fun _ _ => rfl)) (fun _ _ => rfl)) pe_int (fun _ _ => rfl)) pe_non (nomark _))))))
(pss_one (ps_ret pe_bl)) pss_nil)
(pss_cons (ps_if (PW.pt (pw_and (pt_cmpR op_eq (pv 3) pe_int (nomark _)) (pw_and1 (pt_cmpR op_notIn_seq (pe_ix ix_tup (pe_ix ix_tup (pe_ix ix_tup (pv 0) pe_int (fun _ _ => rfl)) (pe_ix ix_tup (pv 1) (pv 3) (fun _ _ => rfl)) (fun _ _ => rfl)) pe_int (fun _ _ => rfl)) (pe_ix ix_tup (pv 0) pe_int (fun _ _ => rfl)) (by rfl)))))
(pss_one (ps_ret pe_bl)) pss_nil)
(pss_cons (ps_if (PW.pt (pw_and (pt_cmpR op_gt (pv 3) pe_int (nomark _)) (pw_and1 (PW.pt (pw_or (pt_not (pt_tru (pv 2) (by intro _; rfl))) (pw_or1 (pt_cmpR op_ne (pe_bm0 PySem.F.plainAttrs_list PySem.F.slot_list_pop PySem.F.type_list_pop mt_pop (pv 2)) (pe_ix ix_tup (pe_ix ix_tup (pe_ix ix_tup (pv 0) pe_int (fun _ _ => rfl)) (pe_ix ix_tup (pv 1) (pv 3) (fun _ _ => rfl)) (fun _ _ => rfl)) pe_int (fun _ _ => rfl)) (nomark _))))))))
(pss_one (ps_ret pe_bl)) pss_nil)
(pss_one (ps_for PassesOwn.never rfl (pi_revA (by rfl) T.m_reversed (pe_ix ix_tup (pe_ix ix_tup (pe_ix ix_tup (pv 0) pe_int (fun _ _ => rfl)) (pe_ix ix_tup (pv 1) (pv 3) (fun _ _ => rfl)) (fun _ _ => rfl)) pe_int (fun _ _ => rfl))) (pg_name (i := 4) sc_law_product.nd rfl (.inl rfl))
(pss_one (ps_expr (pe_bm PySem.F.plainAttrs_list PySem.F.slot_list_append PySem.F.type_list_append mt_append (pv 2) (pa_cons (pv 4) pa_nil))))))))))
(pss_one (ps_ret (pe_and (pe_cmpR op_gt (pe_callB call_len_seq (by rfl) T.m_len PySem.boot_len (pa_cons (pv 1) pa_nil)) pe_int (nomark _)) (pe_one (pe_notT (pv 2)))))))), ?_⟩
    have ok := hF.ok
    refine s_asgL (el_lst ea_nil (by decide)) fun b H1 nb e1 hb => ?_
    have hlen : ∀ {σ : L2.St} {H2 : Hp}, Ex H H2 → σ[1]? = some (some (.ref p)) → Ev (tCB (fun xs H Q => ∃ p ys, xs = [.ref p] ∧ (SqL K H p ys ∨ SqT K H p ys) ∧ Q (.int ys.length) H) (tCons (tVar 1) tNil)) σ H2 (nV ns.length) := fun e h =>
      ev_is (ev_lenT (et_of (ev_var h) (e _ _ hp))) (by rw [List.length_map])
    refine s_forR1 (n := (ns.length : Int)) (ea_cons (hlen e1 rfl) ea_nil) (by omega) (fun k σ' H' => ∃ (ws : List Nat) (y3 y4 : Option V), σ' = [some (.ref f), some (.ref p), some (.ref b), y3, y4] ∧ Ex H H' ∧ H' b = some (.lst (ws.reverse.map nV)) ∧ ws.length ≤ 3 * k ∧ (k = 0 → ws = []) ∧ (0 < k → Fo F ws (ns.drop k)))
      (fun H2 e2 => ⟨[], none, none, rfl, e1.trans e2, e2 _ _ hb, Nat.le_refl _, fun _ => rfl, fun z => absurd z (Nat.lt_irrefl _)⟩) (fun k σ' H2 hk hW => ?_) (fun σ' H2 hW => ?_)
    · obtain ⟨ws, y3, y4, rfl, eH, hb2, hwl, hk0, hkp⟩ := hW
      have hkl : k < ns.length := by omega
      obtain ⟨n, hn⟩ : ∃ n, ns[k]? = some n := ⟨_, List.getElem?_eq_getElem hkl⟩
      have hdr : ns.drop k = n :: ns.drop (k + 1) := by
        obtain ⟨h1, h2⟩ := List.getElem?_eq_some_iff.mp hn
        rw [← h2]
        exact List.drop_eq_getElem_cons h1
      obtain ⟨x, wr, hx, hpr, hfo, hroot, htop⟩ : ∃ x wr, F.vs[n]? = some x ∧ x.price.isSome = true ∧ Fo F (x.slots ++ wr) (ns.drop (k + 1)) ∧ (k = 0 → x.plug ∈ F.roots ∧ ws = [] ∧ wr = []) ∧ (0 < k → ws = x.plug :: wr) := by
        by_cases h0 : k = 0
        · subst h0
          have e0 : ns = n :: ns.drop 1 := by
            have := hdr
            rw [List.drop_zero] at this
            exact this
          rw [e0] at hr2
          obtain ⟨x, hx, hpr, hpl, hfo⟩ := hr2.inv
          exact ⟨x, [], hx, hpr, hfo, fun _ => ⟨by rw [hpl]; exact hr1, hk0 rfl, rfl⟩, fun z => absurd z (Nat.lt_irrefl _)⟩
        · have h1 := hkp (by omega)
          rw [hdr] at h1
          cases ws with
          | nil => cases h1
          | cons wp wr =>
            obtain ⟨x, hx, hpr, hpl, hfo⟩ := h1.inv
            exact ⟨x, wr, hx, hpr, hfo, fun z => absurd z h0, fun _ => by rw [hpl]⟩
      have hnl := get_lt hx
      have hF2 := hF.ex eH
      have htk : ∀ {H3 : Hp}, Ex H H3 → Ev (tOp (rIxT K) (tVar 1) (tVar 3)) [some (.ref f), some (.ref p), some (.ref b), some (.int (k : Int)), y4] H3 (nV n) := fun e => ev_ixT (ev_var rfl) (ev_var rfl) (e _ _ hp) (get_map hn)
      have hvar : ∀ {H3 : Hp}, Ex H H3 → Ev (tOp (rIxT K) (tOp (rIxT K) (tVar 0) (tC (.int 2))) (tOp (rIxT K) (tVar 1) (tVar 3))) [some (.ref f), some (.ref p), some (.ref b), some (.int (k : Int)), y4] H3 (.ref (L.va n)) := fun e =>
        ev_ixT (ev_f2 (ev_var rfl) (hF.ex e)) (htk e) (hF.ex e).h2 (FamAt.at F L hnl)
      refine s_if (b := decide ((n : Int) < 0) || (decide (((F.vs.length : Nat) : Int) ≤ (n : Int)) || decide (pV x.price = V.non))) (et_or (et_test (ev_op (htk eH) ev_c rv_I0)) fun _ => et_or (et_test (ev_op (htk eH) (ev_is (ev_lenT (et_of (ev_f2 (ev_var rfl) hF2) hF2.h2)) (by rw [List.length_map, List.length_range] <;> rfl)) rv_I0)) fun _ => et_test (ev_isN (ev_v2 (hvar eH) (hF2.h3 n x hx)))) (fun hb3 H3 e3 => ?_) (fun hb3 H3 e3 => ?_)
      · rw [decide_eq_false (show ¬ ((n : Int) < 0) by omega), decide_eq_false (show ¬ (((F.vs.length : Nat) : Int) ≤ (n : Int)) by omega), pV_pr hx hpr, decide_eq_false (fun z => by cases z)] at hb3
        cases hb3
      have eH3 := eH.trans e3
      have hF3 := hF.ex eH3
      refine s_if (b := decide (V.int (k : Int) = V.int 0) && !decide (x.plug ∈ F.roots)) (et_and (et_test (ev_op (ev_var rfl) ev_c (rv_eq rfl))) fun _ => et_test (ev_niT (s := x.plug) (ev_v0 (hvar eH3) (hF3.h3 n x hx)) (ev_f1 (ev_var rfl) hF3) hF3.h1)) (fun hb4 H4 e4 => ?_) (fun hb4 H4 e4 => ?_)
      · obtain ⟨h1, h2⟩ := Bool.and_eq_true_iff.mp hb4
        have h0 : k = 0 := by
          have := V.int.inj (of_decide_eq_true h1)
          omega
        rw [decide_eq_true (hroot h0).1] at h2
        cases h2
      have eH4 := eH3.trans e4
      have hF4 := hF.ex eH4
      have hb4' := e4 _ _ (e3 _ _ hb2)
      refine s_needPop (pl := x.plug) (wr := wr) (k := k) eH4 nb (ev_var rfl) (ev_var rfl) (fun H5 e5 => ev_v0 (hvar e5) ((hF.ex e5).h3 n x hx)) (fun z => by rw [(hroot z).2.2]; rw [(hroot z).2.1] at hb4'; exact hb4') (fun z => by rw [htop z] at hb4'; exact hb4') fun H5 e5 hb5 => ?_
      have hs5 := ((hF.ex e5).h3 n x hx)
      refine (ev_v1 (hvar e5) hs5) H5 (Ex.refl H5) _ fun H6 e6 => ⟨L.sa n, _, rfl, .inr ⟨SqT.of (e6 _ _ hs5.hs), ?_⟩⟩
      have hsl := ok.s3 x (get_mem hx)
      refine for_ItvT (fun i σ' H' => ∃ y4, σ' = [some (.ref f), some (.ref p), some (.ref b), some (.int (k : Int)), y4] ∧ Ex H H' ∧ H' b = some (.lst ((wr.reverse ++ x.slots.reverse.take i).map nV))) ⟨_, rfl, e5.trans e6, by rw [List.take_zero, List.append_nil]; exact e6 _ _ hb5⟩ (fun i σ' H' hW => SqT.of (by obtain ⟨_, _, z, _⟩ := hW; exact z _ _ (hF.h3 n x hx).hs)) (fun i v σ' H7 hi hv hW => ?_) (fun σ' H7 hW => ?_)
      · obtain ⟨y4, rfl, eH7, hb7⟩ := hW
        rw [List.length_map] at hi hv
        obtain ⟨t, ht, rfl⟩ := map_get hv
        have hrev : x.slots.reverse[i]? = some t := by
          rw [List.getElem?_reverse hi]
          exact ht
        have hwr : wr.length ≤ 3 * k := by
          by_cases z : k = 0
          · rw [(hroot z).2.2]
            exact Nat.zero_le _
          · rw [htop (by omega), List.length_cons] at hwl
            omega
        refine s_appE (v := nV t) hb7 (ev_var rfl) (ev_var rfl) (by rw [List.length_map, List.length_append, List.length_reverse, List.length_take, List.length_reverse]; omega) fun H8 e8 => ⟨_, rfl, Ex.mut (eH7.trans e8) nb, ?_⟩
        rw [upd_same, List.take_add_one, hrev, ← List.append_assoc]
        exact congrArg (fun z => some (HO.lst z)) (List.map_append (l₂ := [t])).symm
      · obtain ⟨y4, rfl, eH7, hb7⟩ := hW
        have : x.slots.reverse.take (x.slots.map nV).length = x.slots.reverse := List.take_of_length_le (by rw [List.length_reverse, List.length_map]; exact Nat.le_refl _)
        rw [this] at hb7
        refine ⟨x.slots ++ wr, _, _, rfl, eH7, by rw [hb7, List.reverse_append], ?_, fun z => by omega, fun _ => hfo⟩
        rw [List.length_append]
        by_cases z : k = 0
        · rw [(hroot z).2.2]
          show x.slots.length + 0 ≤ _
          omega
        · rw [htop (by omega), List.length_cons] at hwl
          omega
    · obtain ⟨ws, y3, y4, rfl, eH, hb2, hwl, hk0, hkp⟩ := hW
      have hpos := hr2.pos
      rw [Int.toNat_natCast] at hkp
      have hfo := hkp (by omega)
      rw [List.drop_length] at hfo
      have hws : ws = [] := by
        cases ws with
        | nil => rfl
        | cons a r => cases hfo
      subst hws
      dsimp only
      refine s_ret (v := .bl true) ?_ ?_
      rotate_left
      · exact fun H3 e3 => q H3 (eH.trans e3)
      refine ev_is (ev_andV (a := decide ((0 : Int) < (ns.length : Int))) (b := true) (ev_op (hlen eH rfl) ev_c rv_I0) fun _ => fun H3 e3 Q q => ⟨.ref b, rfl, false, Or.inl ⟨_, sq_of (e3 _ _ hb2), rfl⟩, q H3 (Ex.refl H3)⟩) (by rw [decide_eq_true (show (0 : Int) < (ns.length : Int) by omega)] <;> rfl)
end
end S
end

section
set_option Elab.async false
set_option linter.all false
set_option autoImplicit false
set_option maxRecDepth 100000
set_option maxHeartbeats 4000000
namespace S
open PySem PySem.Spec PyProof.Rows L2 Evl
/-! ### weights -/
def WV (H : Hp) (v : V) : Option Wt → Prop
  | none => v = .non
  | some q => ∃ a, v = .ref a ∧ H a = some (.tup [nV q.1, nV q.2])
theorem WV.ex {H H' : Hp} {v : V} {o : Option Wt} (h : WV H v o) (e : Ex H H') : WV H' v o := by
  cases o with
  | none => exact h
  | some q =>
    obtain ⟨a, h1, h2⟩ := h
    exact ⟨a, h1, e _ _ h2⟩
theorem WV.upd {H : Hp} {v : V} {o : Option Wt} {b : Addr} {xs ys : List V} (h : WV H v o) (hb : H b = some (.lst xs)) : WV (upd H b (.lst ys)) v o := by
  cases o with
  | none => exact h
  | some q =>
    obtain ⟨a, h1, h2⟩ := h
    exact ⟨a, h1, by rw [upd_ne (fun z => by rw [z, hb] at h2; cases h2)]; exact h2⟩
structure WtsAt (H : Hp) (vs : List V) (n : Nat) (W : WF) : Prop where
  len : vs.length = n
  each : ∀ s v, vs[s]? = some v → WV H v (W s)
theorem WtsAt.ex {H H' : Hp} {vs : List V} {n : Nat} {W : WF} (h : WtsAt H vs n W) (e : Ex H H') : WtsAt H' vs n W := ⟨h.len, fun s v hv => (h.each s v hv).ex e⟩
theorem WtsAt.get {H : Hp} {vs : List V} {n s : Nat} {W : WF} (h : WtsAt H vs n W) (hs : s < n) : ∃ v, vs[s]? = some v ∧ WV H v (W s) := by
  have hs' : s < vs.length := by rw [h.len]; exact hs
  exact ⟨_, List.getElem?_eq_getElem hs', h.each s _ (List.getElem?_eq_getElem hs')⟩
theorem WV.nonN {H : Hp} {v : V} {o : Option Wt} (h : WV H v o) : (!decide (v = V.non)) = o.isSome := by
  cases o with
  | none =>
    rw [show v = .non from h]
    rfl
  | some q =>
    obtain ⟨a, h1, h2⟩ := h
    rw [h1, decide_eq_false (fun z => by cases z)] <;> rfl
theorem WV.non {H : Hp} {v : V} {o : Option Wt} (h : WV H v o) : decide (v = V.non) = o.isNone := by
  cases o with
  | none =>
    rw [show v = .non from h]
    rfl
  | some q =>
    obtain ⟨a, h1, h2⟩ := h
    rw [h1, decide_eq_false (fun z => by cases z)] <;> rfl
section
variable {P : Program} {w : World} {K : PySem.W.Frag} {mg : Str → Option Value} {base : Heap}
/-! ### weight_of -/
theorem sc_weight_of : FnScope ["variant", "weights", "_", "slots", "price", "parts", "state"] ["variant", "weights"] (defScope (top 28)) := ⟨rfl, rfl, rfl, by decide +kernel, rfl, by decide +kernel, by decide +kernel⟩
-- slots: 0 variant, 1 weights, 2 _, 3 slots, 4 price, 5 parts, 6 state

def spWeight : Sp := fun vs H Q _ => ∃ (a sa p : Addr) (x : Var) (us : List V) (n : Nat) (W : WF), vs = [.ref a, .ref p] ∧ VarAt H a sa x ∧ H p = some (.tup us) ∧ WtsAt H us n W ∧ (∀ t ∈ x.slots, t < n) ∧ ∀ v H', Ex H H' → WV H' v (wOf W x) → Q v H'
theorem ok_weight_of (T : Txt K mg) : Good P w K mg base CX0 1 "weight_of" ["variant", "weights"] spWeight := by
  refine Good.of T (j := 16) (i := 28) rfl rfl sc_weight_of (fun _ _ _ _ _ _ us hl => match us, hl with | [_, _], _ => rfl) (fun vs H Q E h => ?_) (fun cdv A outer s H vs Q E hr h => ?_)
  · obtain ⟨a, sa, p, x, us, n, W, rfl, _⟩ := h
    rfl
  · obtain ⟨a, sa, p, x, us, n, W, rfl, hv, hp, hW, hsl, q⟩ := h
    refine ⟨_, (pss_cons (ps_asg (pv 0) (pg_tup (by rfl) (pgs_cons (pg_name (i := 2) sc_weight_of.nd rfl (.inl rfl)) (pgs_cons (pg_name (i := 3) sc_weight_of.nd rfl (.inl rfl)) (pgs_cons (pg_name (i := 4) sc_weight_of.nd rfl (.inl rfl)) pgs_nil)))))
(pss_cons (ps_if (pt_cmpR op_isN (pv 4) pe_non (nomark _))
(pss_one (ps_ret pe_non)) pss_nil)
(pss_cons (ps_set (i := 5) sc_weight_of.nd rfl (.inl rfl) pe_int)
(pss_cons (ps_for PassesOwn.never rfl (pi_tup (pv 3)) (pg_name (i := 6) sc_weight_of.nd rfl (.inl rfl))
(pss_cons (ps_if (pt_cmpR op_isN (pe_ix ix_tup (pv 1) (pv 6) (fun _ _ => rfl)) pe_non (nomark _))
(pss_one (ps_ret pe_non)) pss_nil)
(pss_cons (ps_aug (i := 4) sc_weight_of.nd rfl (.inl rfl) (pe_ix ix_tup (pe_ix ix_tup (pv 1) (pv 6) (fun _ _ => rfl)) pe_int (fun _ _ => rfl)) ip_add)
(pss_one (ps_aug (i := 5) sc_weight_of.nd rfl (.inl rfl) (pe_ix ix_tup (pe_ix ix_tup (pv 1) (pv 6) (fun _ _ => rfl)) pe_int (fun _ _ => rfl)) ip_add)))))
(pss_one (ps_ret (pe_tup (pa_cons (pv 4) (pa_cons (pv 5) pa_nil))))))))), ?_⟩
    refine s_asg3 (et_of (ev_var rfl) hv.h) fun H1 e1 => ?_
    refine s_if (et_test (ev_isN (ev_var rfl))) (fun hb H2 e2 => ?_) (fun hb H2 e2 => ?_)
    · have hpr : x.price = none := by
        cases z : x.price with
        | none => rfl
        | some pr =>
          rw [z] at hb
          have := of_decide_eq_true hb
          cases this
      refine s_ret ev_c fun H3 e3 => q _ H3 (e1.trans (e2.trans e3)) ?_
      have : wOf W x = none := by
        unfold wOf
        rw [hpr]
      rw [this]
      exact rfl
    · obtain ⟨pr, hpr⟩ : ∃ pr, x.price = some pr := by
        cases z : x.price with
        | none =>
          rw [z] at hb
          exact absurd rfl (of_decide_eq_false hb)
        | some pr => exact ⟨pr, rfl⟩
      rw [hpr]
      have e12 := e1.trans e2
      refine s_asg ev_c fun H3 e3 => ?_
      refine s_forT (ev_var rfl) (SqT.of ((e12.trans e3) _ _ hv.hs)) (fun i σ' H' => ∃ (b : Wt) (y2 y6 : Option V), σ' = [some (.ref a), some (.ref p), y2, some (.ref sa), some (.int ((pr + b.1 : Nat) : Int)), some (.int ((1 + b.2 : Nat) : Int)), y6] ∧ Ex H H' ∧ wS W (x.slots.take i) = some b)
        (fun H4 e4 => ⟨(0, 0), _, _, rfl, e12.trans (e3.trans e4), rfl⟩) (fun i σ' H' _ hW => SqT.of (by obtain ⟨_, _, _, _, z, _⟩ := hW; exact z _ _ hv.hs)) (fun i v σ' H4 hx hW4 => ?_) (fun σ' H4 hW4 => ?_)
      · obtain ⟨b, y2, y6, rfl, eH, hb4⟩ := hW4
        obtain ⟨t, ht, rfl⟩ := map_get hx
        obtain ⟨u, hu, hwv⟩ := hW.get (hsl t (get_mem ht))
        refine s_if (et_test (ev_isN (ev_ixT (ev_var rfl) (ev_var rfl) (eH _ _ hp) hu))) (fun hb5 H5 e5 => ?_) (fun hb5 H5 e5 => ?_)
        · rw [hwv.non] at hb5
          refine s_ret ev_c fun H6 e6 => q _ H6 (eH.trans (e5.trans e6)) ?_
          have : wOf W x = none := by
            cases z : wOf W x with
            | none => rfl
            | some w' =>
              obtain ⟨v', hv', _⟩ := wOf_child z t (get_mem ht)
              rw [hv'] at hb5
              cases hb5
          rw [this]
          exact rfl
        · rw [hwv.non] at hb5
          obtain ⟨c, hc⟩ : ∃ c, W t = some c := by
            cases z : W t with
            | none => rw [z] at hb5; cases hb5
            | some c => exact ⟨c, rfl⟩
          rw [hc] at hwv
          obtain ⟨a2, rfl, ha2⟩ := hwv
          have eH5 := eH.trans e5
          refine s_aug (a := ((pr + b.1 : Nat) : Int)) (b := (c.1 : Int)) rfl (ev_ixT (i := 0) (ev_ixT (ev_var rfl) (ev_var rfl) (eH5 _ _ hp) hu) ev_c (eH5 _ _ ha2) rfl) fun H6 e6 => ?_
          refine s_aug (a := ((1 + b.2 : Nat) : Int)) (b := (c.2 : Int)) rfl (ev_ixT (i := 1) (ev_ixT (ev_var rfl) (ev_var rfl) ((eH5.trans e6) _ _ hp) hu) ev_c ((eH5.trans e6) _ _ ha2) rfl) fun H7 e7 => ?_
          refine ⟨(b.1 + c.1, b.2 + c.2), y2, some (nV t), ?_, (eH5.trans e6).trans e7, ?_⟩
          · have i1 : ((pr + b.1 : Nat) : Int) + (c.1 : Int) = ((pr + (b.1 + c.1) : Nat) : Int) := by omega
            have i2 : ((1 + b.2 : Nat) : Int) + (c.2 : Int) = ((1 + (b.2 + c.2) : Nat) : Int) := by omega
            show [some (V.ref a), some (V.ref p), y2, some (V.ref sa), some (V.int _), some (V.int _), some (nV t)] = _
            rw [i1, i2]
          · rw [List.take_add_one, ht]
            exact wS_snoc hb4 hc
      · obtain ⟨b, y2, y6, rfl, eH, hb4⟩ := hW4
        rw [List.length_map, List.take_length] at hb4
        refine s_retT (et_new (eu_tup (ea_cons (ev_var rfl) (ea_cons (ev_var rfl) ea_nil)) (by show 2 ≤ 100000; decide))) fun r H5 e5 hr5 => q _ H5 (eH.trans e5) ?_
        rw [wOf_some.mpr ⟨pr, b, hpr, hb4, rfl⟩]
        exact ⟨r, rfl, hr5⟩
theorem ex_weight {σ : L2.St} {H : Hp} {ta tb : TE} {a sa p : Addr} {x : Var} {us : List V} {n : Nat} {W : WF} (ha : Ev ta σ H (.ref a)) (hb : Ev tb σ H (.ref p)) (hv : VarAt H a sa x) (hp : H p = some (.tup us)) (hW : WtsAt H us n W) (hs : ∀ t ∈ x.slots, t < n) :
    EX (tCall spWeight [] E0 (tCons ta (tCons tb tNil))) σ H (fun v H' => WV H' v (wOf W x)) :=
  ex_call (ea_cons ha (ea_cons hb ea_nil)) fun H1 e Q q E => ⟨a, sa, p, x, us, n, W, rfl, hv.ex e, e _ _ hp, hW.ex e, hs, fun v H' e' hv' => q v H' e' hv'⟩
/-! ### least_round -/
instance decW (a b : Wt) : Decidable (ltW a b) := by
  unfold ltW
  infer_instance
theorem lex2 (a b c d : Nat) : HT.lexLt [(a : Int), (b : Int)] [(c : Int), (d : Int)] = decide (ltW (a, b) (c, d)) := by
  have hk : ltW (a, b) (c, d) ↔ (a < c ∨ a = c ∧ b < d) := Iff.rfl
  rw [HT.lexLt_cons, HT.lexLt_cons, HT.lexLt_nil_nil, Bool.eq_iff_iff, decide_eq_true_iff, hk]
  by_cases h : (a : Int) = (c : Int)
  · rw [if_pos h]
    by_cases h2 : (b : Int) = (d : Int)
    · rw [if_pos h2]
      constructor
      · intro z; cases z
      · intro z; omega
    · rw [if_neg h2, decide_eq_true_iff]
      omega
  · rw [if_neg h, decide_eq_true_iff]
    omega
theorem ev_ltW {σ : L2.St} {H : Hp} {ta tb : TE} {u v : V} {a b : Wt} (ha : Ev ta σ H u) (hb : Ev tb σ H v) (hu : WV H u (some a)) (hv : WV H v (some b)) : Ev (tOp (rLtT K) ta tb) σ H (.bl (decide (ltW a b))) := by
  obtain ⟨p, rfl, hp⟩ := hu
  obtain ⟨r, rfl, hr⟩ := hv
  refine ev_op ha hb (rv_val fun H1 e Q q => ⟨p, r, [(a.1 : Int), (a.2 : Int)], [(b.1 : Int), (b.2 : Int)], rfl, rfl, SqT.of (e _ _ hp), SqT.of (e _ _ hr), ?_⟩)
  rw [lex2]
  exact q
theorem sc_least_round : FnScope ["family", "weights", "count", "_", "variants", "best", "variant", "plug", "weight"] ["family", "weights"] (defScope (top 29)) := ⟨rfl, rfl, rfl, by decide +kernel, rfl, by decide +kernel, by decide +kernel⟩
-- slots: 0 family, 1 weights, 2 count, 3 _, 4 variants, 5 best, 6 variant, 7 plug, 8 weight

def spRound : Sp := fun vs H Q _ => ∃ (f : Addr) (L : Lay) (F : Fam) (p : Addr) (us : List V) (W : WF), vs = [.ref f, .ref p] ∧ FamAt H f L F ∧ H p = some (.tup us) ∧ WtsAt H us F.cnt W ∧ ∀ r us' B H', Ex H H' → H' r = some (.tup us') → WtsAt H' us' F.cnt B → RoundL F.vs W B → Q (.ref r) H'
theorem ok_least_round (T : Txt K mg) : Good P w K mg base CX0 2 "least_round" ["family", "weights"] spRound := by
  have G_weight_of : Good P w K mg base CX0 1 "weight_of" ["variant", "weights"] spWeight := ok_weight_of T
  refine Good.of T (j := 17) (i := 29) rfl rfl sc_least_round (fun _ _ _ _ _ _ us hl => match us, hl with | [_, _], _ => rfl) (fun vs H Q E h => ?_) (fun cdv A outer s H vs Q E hr h => ?_)
  · obtain ⟨f, L, F, p, us, W, rfl, _⟩ := h
    rfl
  · obtain ⟨f, L, F, p, us, W, rfl, hF, hp, hW, q⟩ := h
    refine ⟨_, (pss_cons (ps_asg (pv 0) (pg_tup (by rfl) (pgs_cons (pg_name (i := 2) sc_least_round.nd rfl (.inl rfl)) (pgs_cons (pg_name (i := 3) sc_least_round.nd rfl (.inl rfl)) (pgs_cons (pg_name (i := 4) sc_least_round.nd rfl (.inl rfl)) pgs_nil)))))
(pss_cons (ps_set (i := 5) sc_least_round.nd rfl (.inl rfl) (pe_op op_rep (pe_lst (pa_cons pe_non pa_nil)) (pv 2)))
(pss_cons (ps_for PassesOwn.never rfl (pi_tup (pv 4)) (pg_name (i := 6) sc_least_round.nd rfl (.inl rfl))
(pss_cons (ps_set (i := 7) sc_least_round.nd rfl (.inl rfl) (pe_ix ix_tup (pv 6) pe_int (fun _ _ => rfl)))
(pss_cons (ps_set (i := 8) sc_least_round.nd rfl (.inl rfl) (pe_c G_weight_of hr (pa_cons (pv 6) (pa_cons (pv 1) pa_nil))))
(pss_one (ps_if (PW.pt (pw_and (pt_cmpR op_notN (pv 8) pe_non (nomark _)) (pw_and1 (PW.pt (pw_or (pt_cmpR op_isN (pe_ix ix_list (pv 5) (pv 7) (fun _ _ => rfl)) pe_non (nomark _)) (pw_or1 (pt_cmpR (op_ltT hr.units0) (pv 8) (pe_ix ix_list (pv 5) (pv 7) (fun _ _ => rfl)) (nomark _))))))))
(pss_one (ps_asg (pv 8) (pg_sub (pv 5) (pv 7) set_list))) pss_nil)))))
(pss_one (ps_ret (pe_callTy call_tuple_of (by rfl) T.m_tuple (by decide +kernel) (pa_cons (pv 5) pa_nil))))))), ?_⟩
    have ok := hF.ok
    have c4 := ok.c4
    refine s_asg3 (et_of (ev_var rfl) hF.h0) fun H1 e1 => ?_
    refine s_asgL (el_rep (el_lst (ea_cons ev_c ea_nil) (by show 1 ≤ 100000; decide)) (ev_var rfl) (by show 1 * F.cnt ≤ 100000; omega) (by omega)) fun b H2 nb e2 hb => ?_
    rw [flat_rep] at hb
    have e12 := e1.trans e2
    have nbH := fresh_back e1 nb
    refine s_forT (ev_var rfl) (SqT.of (e12 _ _ hF.h2)) (fun i σ' H' => ∃ (bs : List V) (B : WF) (y3 y6 y7 y8 : Option V), σ' = [some (.ref f), some (.ref p), some (nV F.cnt), y3, some (.ref L.b), some (.ref b), y6, y7, y8] ∧ Ex H H' ∧ H' b = some (.lst bs) ∧ WtsAt H' bs F.cnt B ∧ RoundL (F.vs.take i) W B)
      (fun H3 e3 => ⟨List.replicate F.cnt .non, fun _ => none, _, _, _, _, rfl, e12.trans e3, e3 _ _ hb, ⟨List.length_replicate, fun s v hv => by
        rw [List.getElem?_replicate] at hv
        split at hv
        · exact (Option.some.inj hv).symm
        · cases hv⟩, by rw [List.take_zero]; exact .nil W⟩) (fun i σ' H' _ hW => SqT.of (by obtain ⟨_, _, _, _, _, _, _, z, _⟩ := hW; exact z _ _ hF.h2)) (fun i v σ' H3 hx hW3 => ?_) (fun σ' H3 hW3 => ?_)
    · obtain ⟨bs, B, y3, y6, y7, y8, rfl, eH, hb3, hB, hR⟩ := hW3
      obtain ⟨x, hx', rfl⟩ := FamAt.vs F L hx
      have hv3 := (hF.ex eH).h3 i x hx'
      have hpl := ok.pl x (get_mem hx')
      refine s_asg (ev_v0 (ev_var rfl) hv3) fun H4 e4 => ?_
      refine s_asgX (ex_weight (ev_var rfl) (ev_var rfl) (hv3.ex e4) ((eH.trans e4) _ _ hp) (hW.ex (eH.trans e4)) (ok.sl x (get_mem hx'))) fun u H5 e5 hu => ?_
      have eH5 := eH.trans (e4.trans e5)
      have hb5 := e5 _ _ (e4 _ _ hb3)
      have hB5 := hB.ex (e4.trans e5)
      obtain ⟨bv, hbv, hbw⟩ := hB5.get hpl
      have htk : F.vs.take (i + 1) = F.vs.take i ++ [x] := by rw [List.take_add_one, hx'] <;> rfl
      cases hw : wOf W x with
      | none =>
        rw [hw] at hu
        refine s_if (b := false) (et_is (et_and (et_test (ev_notN (ev_var rfl))) (b := true) fun z => ?_) ?_) (fun z => by cases z) (fun _ H6 e6 => ?_)
        · rw [hu.nonN] at z
          cases z
        · rw [hu.nonN] <;> rfl
        · exact ⟨bs, B, _, _, _, _, rfl, eH5.trans e6, e6 _ _ hb5, hB5.ex e6, by rw [htk]; exact hR.keep fun w' hw' => by rw [hw] at hw'; cases hw'⟩
      | some wt =>
        rw [hw] at hu
        have tst : EvT (tAnd (tTest (tOp (fun x y H Q => y = .non ∧ Q (.bl (!decide (x = .non))) H) (tVar 8) (tC .non))) (tOr (tTest (tOp (fun x y H Q => y = .non ∧ Q (.bl (decide (x = .non))) H) (tOp (rIxL K) (tVar 5) (tVar 7)) (tC .non))) (tTest (tOp (rLtT K) (tVar 8) (tOp (rIxL K) (tVar 5) (tVar 7))))))
            [some (.ref f), some (.ref p), some (nV F.cnt), y3, some (.ref L.b), some (.ref b), some (.ref (L.va i)), some (nV x.plug), some u] H5 (match B x.plug with
            | none => true
            | some c => decide (ltW wt c)) := by
          refine et_is (et_and (et_test (ev_notN (ev_var rfl))) (b := match B x.plug with
            | none => true
            | some c => decide (ltW wt c)) fun _ => ?_) (by rw [hu.nonN] <;> rfl)
          cases hBp : B x.plug with
          | none =>
            rw [hBp] at hbw
            exact et_is (et_or (b := true) (et_test (ev_isN (ev_ixL (ev_var rfl) (ev_var rfl) hb5 hbv))) fun z => by rw [hbw.non] at z; cases z) (by rw [hbw.non] <;> rfl)
          | some c =>
            rw [hBp] at hbw
            exact et_is (et_or (et_test (ev_isN (ev_ixL (ev_var rfl) (ev_var rfl) hb5 hbv))) fun z => et_test (ev_ltW (ev_var rfl) (ev_ixL (ev_var rfl) (ev_var rfl) hb5 hbv) hu hbw)) (by rw [hbw.non] <;> rfl)
        refine s_if tst (fun hb6 H6 e6 => ?_) (fun hb6 H6 e6 => ?_)
        · refine s_setL (e6 _ _ hb5) (ev_var rfl) (ev_var rfl) (ev_var rfl) (by rw [hB5.len]; exact hpl) fun H7 e7 => ?_
          have hb7 := e7 _ _ (e6 _ _ hb5)
          refine ⟨bs.set x.plug u, putW B x.plug (some wt), _, _, _, _, rfl, Ex.mut (eH5.trans (e6.trans e7)) nbH, upd_same, ⟨by rw [List.length_set]; exact hB5.len, fun s v hv => ?_⟩, ?_⟩
          · by_cases es : s = x.plug
            · subst es
              rw [List.getElem?_set_self (by rw [hB5.len]; exact hpl)] at hv
              rw [← Option.some.inj hv, putW_same]
              exact ((hu.ex (e6.trans e7)).upd hb7)
            · rw [List.getElem?_set_ne (fun z => es z.symm)] at hv
              rw [putW_ne es]
              exact (((hB5.each s v hv).ex (e6.trans e7)).upd hb7)
          · rw [htk]
            refine hR.put hw fun c hc => ?_
            rw [hc] at hb6
            exact of_decide_eq_true hb6
        · refine ⟨bs, B, _, _, _, _, rfl, eH5.trans e6, e6 _ _ hb5, hB5.ex e6, ?_⟩
          rw [htk]
          refine hR.keep fun w' hw' => ?_
          rw [hw] at hw'
          have := Option.some.inj hw'
          subst this
          cases hBp : B x.plug with
          | none => rw [hBp] at hb6; cases hb6
          | some c =>
            rw [hBp] at hb6
            exact ⟨c, rfl, .of_not (of_decide_eq_false hb6)⟩
    · obtain ⟨bs, B, y3, y6, y7, y8, rfl, eH, hb3, hB, hR⟩ := hW3
      rw [List.length_map, List.length_range, List.take_length] at hR
      exact s_retT (et_tupleL (ev_var rfl) hb3) fun r H4 e4 hr4 => q r bs B H4 (eH.trans e4) hr4 (hB.ex e4) hR
end
end S
end

section
set_option Elab.async false
set_option linter.all false
set_option autoImplicit false
set_option maxRecDepth 100000
set_option maxHeartbeats 4000000
namespace S
open PySem PySem.Spec PyProof.Rows L2 Evl
/-! ### == of weights -/
def dWt : Option Wt → PyData
  | none => .none
  | some q => .tuple (dI [(q.1 : Int), (q.2 : Int)])
theorem dp_wt {K : PySem.W.Frag} {H : Hp} {v : V} {o : Option Wt} (h : WV H v o) : Dp K H v (dWt o) := by
  cases o with
  | none =>
    rw [show v = .non from h]
    exact .non
  | some q =>
    obtain ⟨a, rfl, ha⟩ := h
    exact .tup (SqT.of ha) (dp_ints [(q.1 : Int), (q.2 : Int)])
theorem eqv_wt (a b : Option Wt) : PyData.eqv (dWt a) (dWt b) = decide (a = b) := by
  cases a with
  | none =>
    cases b with
    | none =>
      show PyData.eqv .none .none = _
      rw [PyData.eqv] <;> rfl
    | some q =>
      show PyData.eqv .none (.tuple _) = _
      rw [PyData.eqv] <;> rfl
  | some p =>
    cases b with
    | none =>
      show PyData.eqv (.tuple _) .none = _
      rw [PyData.eqv] <;> rfl
    | some q =>
      show PyData.eqv (.tuple _) (.tuple _) = _
      rw [PyData.eqv, eqv_ints, Bool.eq_iff_iff, decide_eq_true_iff, decide_eq_true_iff]
      constructor
      · intro h
        injection h with h1 h2
        injection h2 with h2 _
        have e1 : p.1 = q.1 := by omega
        have e2 : p.2 = q.2 := by omega
        exact congrArg some (Prod.ext e1 e2)
      · intro h
        rw [Option.some.inj h]
theorem lay_wt (o : Option Wt) : PyData.canLay0 (dWt o) = true := by
  cases o with
  | none =>
    show PyData.canLay0 .none = true
    rw [PyData.canLay0]
  | some q =>
    show PyData.canLay0 (.tuple _) = true
    rw [PyData.canLay0, lay_ints]
theorem dep_wt (o : Option Wt) : PyData.depth (dWt o) ≤ 1 := by
  cases o with
  | none =>
    show PyData.depth .none ≤ 1
    rw [PyData.depth]
    decide
  | some q =>
    show PyData.depth (.tuple _) ≤ 1
    rw [PyData.depth, dep_ints]
    decide
def dWs (l : List Nat) (W : WF) : List PyData := l.map fun s => dWt (W s)
theorem dp_wts {K : PySem.W.Frag} {H : Hp} {W : WF} : ∀ (us : List V) (k : Nat), (∀ i v, us[i]? = some v → WV H v (W (k + i))) → DpAll K H us (dWs (List.range' k us.length) W)
  | [], _, _ => .nil
  | u :: us, k, h => .cons (dp_wt (h 0 u rfl)) (dp_wts us (k + 1) fun i v hv => by
      have := h (i + 1) v hv
      rw [show k + 1 + i = k + (i + 1) by omega]
      exact this)
theorem eqv_wts (W B : WF) : ∀ l : List Nat, PyData.eqvAll (dWs l W) (dWs l B) = true ↔ ∀ s ∈ l, W s = B s
  | [] => ⟨fun _ s hs => absurd hs List.not_mem_nil, fun _ => by
      show PyData.eqvAll [] [] = true
      rw [PyData.eqvAll]⟩
  | s :: l => by
    show PyData.eqvAll (dWt (W s) :: dWs l W) (dWt (B s) :: dWs l B) = true ↔ _
    rw [PyData.eqvAll, Bool.and_eq_true_iff, eqv_wts W B l, eqv_wt, decide_eq_true_iff]
    exact ⟨fun ⟨h1, h2⟩ t ht => by
      rcases List.mem_cons.mp ht with rfl | ht
      · exact h1
      · exact h2 t ht, fun h => ⟨h s List.mem_cons_self, fun t ht => h t (List.mem_cons_of_mem _ ht)⟩⟩
theorem lay_wts (W : WF) : ∀ l : List Nat, PyData.canLayAll0 (dWs l W) = true
  | [] => by
    show PyData.canLayAll0 [] = true
    rw [PyData.canLayAll0]
  | s :: l => by
    show PyData.canLayAll0 (dWt (W s) :: dWs l W) = true
    rw [PyData.canLayAll0, lay_wt, lay_wts W l] <;> rfl
theorem dep_wts (W : WF) : ∀ l : List Nat, PyData.depthAll (dWs l W) ≤ 1
  | [] => by
    show PyData.depthAll [] ≤ 1
    rw [PyData.depthAll]
    decide
  | s :: l => by
    show PyData.depthAll (dWt (W s) :: dWs l W) ≤ 1
    rw [PyData.depthAll]
    have := dep_wt (W s)
    have := dep_wts W l
    omega
theorem shp_wts (W : WF) (l : List Nat) : SeqAt.shaped (.tuple (dWs l W)) = true := by
  unfold SeqAt.shaped
  rw [PyData.canLay0, lay_wts, PyData.depth, Bool.true_and]
  have := dep_wts W l
  exact decide_eq_true (by omega)
theorem shp_wt (o : Option Wt) : SeqAt.shaped (dWt o) = true := by
  unfold SeqAt.shaped
  rw [lay_wt, Bool.true_and]
  have := dep_wt o
  exact decide_eq_true (by omega)
section
variable {P : Program} {w : World} {K : PySem.W.Frag} {mg : Str → Option Value} {base : Heap}
theorem ev_eqWt {σ : L2.St} {H : Hp} {ta tb : TE} {u v : V} {a b : Option Wt} (ha : Ev ta σ H u) (hb : Ev tb σ H v) (hu : WV H u a) (hv : WV H v b) : Ev (tOp (rEqD K) ta tb) σ H (.bl (decide (a = b))) :=
  ev_op ha hb (rv_val fun H1 e Q q => ⟨dWt a, dWt b, dp_wt (hu.ex e), dp_wt (hv.ex e), shp_wt a, shp_wt b, by
    rw [eqv_wt]
    exact q⟩)
theorem ev_eqWts {σ : L2.St} {H : Hp} {ta tb : TE} {p r : Addr} {us vs : List V} {n : Nat} {W B : WF} (ha : Ev ta σ H (.ref p)) (hb : Ev tb σ H (.ref r)) (hp : H p = some (.tup us)) (hr : H r = some (.tup vs)) (hW : WtsAt H us n W) (hB : WtsAt H vs n B) :
    ∃ b : Bool, (b = true ↔ ∀ s, s < n → W s = B s) ∧ Ev (tOp (rEqD K) ta tb) σ H (.bl b) := by
  have e1 : us.length = n := hW.len
  have e2 : vs.length = n := hB.len
  refine ⟨PyData.eqvAll (dWs (List.range' 0 us.length) W) (dWs (List.range' 0 vs.length) B), ?_, ev_op ha hb (rv_val fun H1 e Q q => ⟨.tuple (dWs (List.range' 0 us.length) W), .tuple (dWs (List.range' 0 vs.length) B), .tup (SqT.of (e _ _ hp)) (dp_wts us 0 fun i v hv => by rw [Nat.zero_add]; exact (hW.each i v hv).ex e), .tup (SqT.of (e _ _ hr)) (dp_wts vs 0 fun i v hv => by rw [Nat.zero_add]; exact (hB.each i v hv).ex e), shp_wts _ _, shp_wts _ _, by
    rw [PyData.eqv]
    exact q⟩)⟩
  rw [e1, e2, eqv_wts]
  constructor
  · intro h s hs
    exact h s (List.mem_range'_1.mpr ⟨Nat.zero_le _, by omega⟩)
  · intro h s hs
    exact h s (by have := List.mem_range'_1.mp hs; omega)
/-! ### least_weights -/
theorem sc_least_weights : FnScope ["family", "weights", "_", "better"] ["family"] (defScope (top 30)) := ⟨rfl, rfl, rfl, by decide +kernel, rfl, by decide +kernel, by decide +kernel⟩
-- slots: 0 family, 1 weights, 2 _, 3 better

theorem Rds.out {F : Fam} (ok : F.Ok) {k : Nat} {W : WF} (h : Rds F k W) {s : Nat} (hs : F.cnt ≤ s) : W s = none := by
  cases h with
  | zero => rfl
  | succ h1 h2 =>
    cases e : W s with
    | none => rfl
    | some b =>
      obtain ⟨x, hx, rfl, _⟩ := h2.from_ s b e
      have := ok.pl x hx
      omega
def spLeastW : Sp := fun vs H Q _ => ∃ (f : Addr) (L : Lay) (F : Fam), vs = [.ref f] ∧ FamAt H f L F ∧ ∀ r us W H', Ex H H' → H' r = some (.tup us) → WtsAt H' us F.cnt W → FixW F W → Q (.ref r) H'
theorem ok_least_weights (T : Txt K mg) : Good P w K mg base CX0 3 "least_weights" ["family"] spLeastW := by
  have G_least_round : Good P w K mg base CX0 2 "least_round" ["family", "weights"] spRound := ok_least_round T
  refine Good.of T (j := 18) (i := 30) rfl rfl sc_least_weights (fun _ _ _ _ _ _ us hl => match us, hl with | [_], _ => rfl) (fun vs H Q E h => ?_) (fun cdv A outer s H vs Q E hr h => ?_)
  · obtain ⟨f, L, F, rfl, _⟩ := h
    rfl
  · obtain ⟨f, L, F, rfl, hF, q⟩ := h
    refine ⟨_, (pss_cons (ps_set (i := 1) sc_least_weights.nd rfl (.inl rfl) (pe_op op_repA (pe_tup (pa_cons pe_non pa_nil)) (pe_ix ix_tup (pv 0) pe_int (fun _ _ => rfl))))
(pss_cons (ps_for PassesOwn.never rfl (pi_range1 (by rfl) T.m_range (pa_cons (pe_ix ix_tup (pv 0) pe_int (fun _ _ => rfl)) pa_nil)) (pg_name (i := 2) sc_least_weights.nd rfl (.inl rfl))
(pss_cons (ps_set (i := 3) sc_least_weights.nd rfl (.inl rfl) (pe_c G_least_round hr (pa_cons (pv 0) (pa_cons (pv 1) pa_nil))))
(pss_cons (ps_if (pt_cmpR (op_eqD hr.units) (pv 3) (pv 1) (nomark _))
(pss_one (ps_ret (pv 1))) pss_nil)
(pss_one (ps_set (i := 1) sc_least_weights.nd rfl (.inl rfl) (pv 3))))))
(pss_one (ps_ret (pv 1))))), ?_⟩
    have ok := hF.ok
    have c4 := ok.c4
    refine s_asgT (et_repT (et_new (eu_tup (ea_cons ev_c ea_nil) (by show 1 ≤ 100000; decide))) (ev_f0 (ev_var rfl) hF) (by show 1 ≤ 1000; decide) (by omega)) fun p H1 e1 hp => ?_
    rw [flat_rep] at hp
    refine s_forR1 (n := (F.cnt : Int)) (ea_cons (ev_f0 (ev_var rfl) (hF.ex e1)) ea_nil) (by omega) (fun i σ' H' => ∃ (p : Addr) (us : List V) (W : WF) (y2 y3 : Option V), σ' = [some (.ref f), some (.ref p), y2, y3] ∧ Ex H H' ∧ H' p = some (.tup us) ∧ WtsAt H' us F.cnt W ∧ Rds F i W)
      (fun H2 e2 => ⟨p, _, fun _ => none, none, none, rfl, e1.trans e2, e2 _ _ hp, ⟨List.length_replicate, fun s v hv => by
        rw [List.getElem?_replicate] at hv
        split at hv
        · exact (Option.some.inj hv).symm
        · cases hv⟩, .zero⟩) (fun i σ' H2 hi hW => ?_) (fun σ' H2 hW => ?_)
    · obtain ⟨p, us, W, y2, y3, rfl, eH, hp2, hW2, hR⟩ := hW
      refine s_asgX (P := fun v H' => ∃ r us' B, v = .ref r ∧ H' r = some (.tup us') ∧ WtsAt H' us' F.cnt B ∧ RoundL F.vs W B) (ex_call (ea_cons (ev_var rfl) (ea_cons (ev_var rfl) ea_nil)) fun H3 e3 Q q E => ⟨f, L, F, p, us, W, rfl, (hF.ex eH).ex e3, e3 _ _ hp2, hW2.ex e3, fun r us' B H' e' h1 h2 h3 => q _ H' e' ⟨r, us', B, rfl, h1, h2, h3⟩⟩) fun v H3 e3 hv => ?_
      obtain ⟨r, us', B, rfl, hr3, hB3, hRB⟩ := hv
      obtain ⟨b, hb, hev⟩ := ev_eqWts (K := K) (σ := [some (.ref f), some (.ref p), some (.int (i : Int)), some (.ref r)]) (H := H3) (ta := tVar 3) (tb := tVar 1) (ev_var rfl) (ev_var rfl) hr3 (e3 _ _ hp2) hB3 (hW2.ex e3)
      refine s_if (et_test hev) (fun hbt H4 e4 => ?_) (fun hbt H4 e4 => ?_)
      · have hBW : B = W := funext fun s => by
          by_cases hs : s < F.cnt
          · exact hb.mp hbt s hs
          · rw [(Rds.succ hR hRB).out ok (by omega), hR.out ok (by omega)]
        subst hBW
        exact s_ret (ev_var rfl) fun H5 e5 => q p us B H5 (eH.trans (e3.trans (e4.trans e5))) (e5 _ _ (e4 _ _ (e3 _ _ hp2))) (hW2.ex (e3.trans (e4.trans e5))) (fixW_of ok hR (by omega) hRB)
      · exact s_asg (ev_var rfl) fun H5 e5 => ⟨r, us', B, _, _, rfl, eH.trans (e3.trans (e4.trans e5)), e5 _ _ (e4 _ _ hr3), hB3.ex (e4.trans e5), .succ hR hRB⟩
    · obtain ⟨p, us, W, y2, y3, rfl, eH, hp2, hW2, hR⟩ := hW
      rw [Int.toNat_natCast] at hR
      exact s_ret (ev_var rfl) fun H5 e5 => q p us W H5 (eH.trans e5) (e5 _ _ hp2) (hW2.ex e5) (fixW_of ok hR (Nat.le_refl _) (hR.fix ok))
/-! ### first_roots -/
structure RootsOk (F : Fam) (W : WF) (g : Nat → Option V) : Prop where
  val : ∀ s v, g s = some v → ∃ n x wt, v = nV n ∧ F.vs[n]? = some x ∧ x.plug = s ∧ wOf W x = some wt ∧ W s = some wt
  all : ∀ s wt, W s = some wt → (g s).isSome = true
theorem sc_first_roots : FnScope ["family", "weights", "found", "number", "variant", "plug", "weight"] ["family", "weights"] (defScope (top 31)) := ⟨rfl, rfl, rfl, by decide +kernel, rfl, by decide +kernel, by decide +kernel⟩
-- slots: 0 family, 1 weights, 2 found, 3 number, 4 variant, 5 plug, 6 weight

def spFirst : Sp := fun vs H Q _ => ∃ (f : Addr) (L : Lay) (F : Fam) (p : Addr) (us : List V) (W : WF), vs = [.ref f, .ref p] ∧ FamAt H f L F ∧ H p = some (.tup us) ∧ WtsAt H us F.cnt W ∧ FixW F W ∧ ∀ d g H', Ex H H' → DkAt H' d g 12 → RootsOk F W g → Q (.ref d) H'
theorem ok_first_roots (T : Txt K mg) : Good P w K mg base CX0 2 "first_roots" ["family", "weights"] spFirst := by
  have G_weight_of : Good P w K mg base CX0 1 "weight_of" ["variant", "weights"] spWeight := ok_weight_of T
  refine Good.of T (j := 19) (i := 31) rfl rfl sc_first_roots (fun _ _ _ _ _ _ us hl => match us, hl with | [_, _], _ => rfl) (fun vs H Q E h => ?_) (fun cdv A outer s H vs Q E hr h => ?_)
  · obtain ⟨f, L, F, p, us, W, rfl, _⟩ := h
    rfl
  · obtain ⟨f, L, F, p, us, W, rfl, hF, hp, hW, hfix, q⟩ := h
    refine ⟨_, (pss_cons (ps_set (i := 2) sc_first_roots.nd rfl (.inl rfl) pe_dnewK)
(pss_cons (ps_for PassesOwn.never rfl (pi_enumT (by rfl) T.m_enumerate (pa_cons (pe_ix ix_tup (pv 0) pe_int (fun _ _ => rfl)) pa_nil)) (pg_tup (by rfl) (pgs_cons (pg_name (i := 3) sc_first_roots.nd rfl (.inl rfl)) (pgs_cons (pg_name (i := 4) sc_first_roots.nd rfl (.inl rfl)) pgs_nil)))
(pss_cons (ps_set (i := 5) sc_first_roots.nd rfl (.inl rfl) (pe_ix ix_tup (pv 4) pe_int (fun _ _ => rfl)))
(pss_cons (ps_set (i := 6) sc_first_roots.nd rfl (.inl rfl) (pe_c G_weight_of hr (pa_cons (pv 4) (pa_cons (pv 1) pa_nil))))
(pss_one (ps_if (PW.pt (pw_and (pt_cmp (pc_dnotin (hu_of hr) (pv 5) (pv 2))) (pw_and (pt_cmpR op_notN (pv 6) pe_non (nomark _)) (pw_and1 (pt_cmpR (op_eqD hr.units) (pv 6) (pe_ix ix_tup (pv 1) (pv 5) (fun _ _ => rfl)) (nomark _))))))
(pss_one (ps_dput (hu_of hr) (pv 2) (pv 5) (pv 3) rfl)) pss_nil)))))
(pss_one (ps_ret (pv 2))))), ?_⟩
    have ok := hF.ok
    have v12 := ok.v12
    refine s_dnew fun d nd hd => ?_
    have e1 : Ex H (upd H d (.dK [])) := Ex.new nd
    generalize upd H d (.dK []) = H1 at *
    have hF1 := hF.ex e1
    refine (ev_f2 (K := K) (σ := [some (.ref f), some (.ref p), some (.ref d), none, none, none, none]) (te := tVar 0) (ev_var rfl) hF1) H1 (Ex.refl H1) _ fun H2 e2 => ⟨L.b, _, rfl, SqT.of (e2 _ _ hF1.h2), for_it walk_enumT (fun i σ' H' => ∃ (g : Nat → Option V) (y3 y4 y5 y6 : Option V), σ' = [some (.ref f), some (.ref p), some (.ref d), y3, y4, y5, y6] ∧ Ex H H' ∧ DkAt H' d g i ∧ (∀ s v, g s = some v → ∃ n x wt, v = nV n ∧ F.vs[n]? = some x ∧ x.plug = s ∧ wOf W x = some wt ∧ W s = some wt) ∧
      (∀ x ∈ F.vs.take i, ∀ wt, wOf W x = some wt → W x.plug = some wt → (g x.plug).isSome = true)) ⟨fun _ => none, none, none, none, none, rfl, e1.trans e2, hd.exx e2, (fun s v hv => nomatch hv), (fun x hx => absurd (show x ∈ ([] : List Var) from hx) List.not_mem_nil)⟩ (fun i σ' H' _ hW => SqT.of (by obtain ⟨_, _, _, _, _, _, z, _⟩ := hW; exact z _ _ hF.h2)) (fun i v σ' H3 H4 hi hW3 hy => ?_) (fun σ' H3 hW3 => ?_)⟩
    · obtain ⟨g, y3, y4, y5, y6, rfl, eH, hd3, hval, hall⟩ := hW3
      obtain ⟨Tt, x1, x2, rfl, nT, rfl, e1', e2'⟩ := hy
      have ex1 : x1 = nV i := (Option.some.inj e1').symm
      subst ex1
      obtain ⟨x, hx, rfl⟩ := FamAt.vs F L e2'
      have eT : Ex H3 (upd H3 Tt (.tup [nV i, .ref (L.va i)])) := Ex.new nT
      have hpl := ok.pl x (get_mem hx)
      have hil := get_lt hx
      refine ⟨Tt, _, rfl, SqT.of upd_same, rfl, _, _, rfl, _, _, rfl, rfl, ?_⟩
      have eH4 := eH.trans eT
      have hd4 := hd3.exx eT
      generalize upd H3 Tt (.tup [nV i, .ref (L.va i)]) = H4 at *
      have hv4 := (hF.ex eH4).h3 i x hx
      refine s_asg (ev_v0 (ev_var rfl) hv4) fun H5 e5 => ?_
      refine s_asgX (ex_weight (ev_var rfl) (ev_var rfl) (hv4.ex e5) ((eH4.trans e5) _ _ hp) (hW.ex (eH4.trans e5)) (ok.sl x (get_mem hx))) fun u H6 e6 hu => ?_
      have eH6 := eH4.trans (e5.trans e6)
      have hd6 := hd4.exx (e5.trans e6)
      have hW6 := hW.ex eH6
      obtain ⟨bv, hbv, hbw⟩ := hW6.get hpl
      have htk : F.vs.take (i + 1) = F.vs.take i ++ [x] := by rw [List.take_add_one, hx] <;> rfl
      refine s_if (b := !(g x.plug).isSome && ((wOf W x).isSome && decide (wOf W x = W x.plug))) (et_and (et_B (ev_dnotin (s := x.plug) (ev_var rfl) (ev_var rfl) hd6)) fun _ => et_and (et_is (et_test (ev_notN (ev_var rfl))) hu.nonN) fun _ => et_test (ev_eqWt (ev_var rfl) (ev_ixT (ev_var rfl) (ev_var rfl) (eH6 _ _ hp) hbv) hu hbw)) (fun hb H7 e7 => ?_) (fun hb H7 e7 => ?_)
      · obtain ⟨b1, b2⟩ := Bool.and_eq_true_iff.mp hb
        obtain ⟨b2, b3⟩ := Bool.and_eq_true_iff.mp b2
        obtain ⟨wt, hwt⟩ := Option.isSome_iff_exists.mp b2
        have hWp : W x.plug = some wt := by rw [← of_decide_eq_true b3]; exact hwt
        refine s_dput (v := nV i) (s := x.plug) (hd6.exx e7) (ev_var rfl) (ev_var rfl) (ev_var rfl) (by omega) fun H8 kvs e8 hd8 => ?_
        refine ⟨dPut g x.plug (nV i), _, _, _, _, rfl, Ex.mut (eH6.trans (e7.trans e8)) nd, hd8, fun s v hv => ?_, fun y hy wy h1 h2 => ?_⟩
        · by_cases es : s = x.plug
          · subst es
            rw [dPut_same] at hv
            exact ⟨i, x, wt, (Option.some.inj hv).symm, hx, rfl, hwt, hWp⟩
          · rw [dPut_ne es] at hv
            exact hval s v hv
        · by_cases es : y.plug = x.plug
          · rw [es, dPut_same] <;> rfl
          · rw [dPut_ne es]
            rw [htk] at hy
            rcases List.mem_append.mp hy with hy | hy
            · exact hall y hy wy h1 h2
            · rw [List.mem_singleton] at hy
              exact absurd (by rw [hy]) es
      · refine ⟨g, _, _, _, _, rfl, eH6.trans e7, ?_, hval, fun y hy wy h1 h2 => ?_⟩
        · obtain ⟨kvs, k1, k2, k3⟩ := (hd6.exx e7).ex
          exact ⟨kvs, k1, by omega, k3⟩
        · rw [htk] at hy
          rcases List.mem_append.mp hy with hy | hy
          · exact hall y hy wy h1 h2
          · rw [List.mem_singleton] at hy
            subst hy
            cases z : (g y.plug).isSome with
            | true => rfl
            | false =>
              rw [z, h1, h2] at hb
              simp at hb
    · obtain ⟨g, y3, y4, y5, y6, rfl, eH, hd3, hval, hall⟩ := hW3
      rw [List.length_map, List.length_range] at hd3 hall
      rw [List.take_length] at hall
      refine s_ret (ev_var rfl) fun H4 e4 => q d g H4 (eH.trans e4) ?_ ⟨hval, fun s wt hs => ?_⟩
      · obtain ⟨kvs, k1, k2, k3⟩ := (hd3.exx e4).ex
        exact ⟨kvs, k1, by omega, k3⟩
      · obtain ⟨x, hx, rfl, hwx⟩ := hfix.fix.from_ s wt hs
        exact hall x hx wt hwx hs
/-! ### tree_from -/
theorem wS_app {W : WF} {a b : List Nat} {u v : Wt} (h : wS W a = some u) (k : wS W b = some v) : wS W (a ++ b) = some (u.1 + v.1, u.2 + v.2) := by
  induction a generalizing u with
  | nil =>
    have e : u = (0, 0) := (Option.some.inj h).symm
    subst e
    rw [List.nil_append, k]
    simp
  | cons t r ih =>
    obtain ⟨c, d, h1, h2, rfl⟩ := wS_cons.mp h
    show wS W (t :: (r ++ b)) = _
    rw [wS_cons]
    exact ⟨c, _, h1, ih h2, by simp [Nat.add_assoc]⟩
theorem sc_tree_from : FnScope ["family", "roots", "state", "tree", "wanted", "number"] ["family", "roots", "state"] (defScope (top 32)) := ⟨rfl, rfl, rfl, by decide +kernel, rfl, by decide +kernel, by decide +kernel⟩
-- slots: 0 family, 1 roots, 2 state, 3 tree, 4 wanted, 5 number

def spTree : Sp := fun vs H Q _ => ∃ (f : Addr) (L : Lay) (F : Fam) (d : Addr) (g : Nat → Option V) (n s : Nat) (W : WF) (wt : Wt), vs = [.ref f, .ref d, nV s] ∧ FamAt H f L F ∧ DkAt H d g n ∧ RootsOk F W g ∧ W s = some wt ∧ wt.2 ≤ 1000 ∧ ∀ p ns H', Ex H H' → H' p = some (.tup (ns.map nV)) → Fo F [s] ns → ns.length = wt.2 → Q (.ref p) H'
theorem s_dgetPop {σ : L2.St} {H : Hp} {td tl : TE} {D : Ends} {d l : Addr} {g : Nat → Option V} {n s i : Nat} {xs : List V} {v : V} (hd : Ev td σ H (.ref d)) (hl : Ev tl σ H (.ref l)) (h : DkAt H d g n) (hx : H l = some (.lst (xs ++ [nV s]))) (hne : l ≠ d) (hv : g s = some v)
    (k : ∀ H1, Ex H H1 → D.nx (σ.set i (some v)) (upd H1 l (.lst xs))) : tAsg (tDGet td (tBM0 K "list" rPop tl)) (gName i) D σ H :=
  hd H (Ex.refl H) _ fun H1 e1 => hl H1 e1 _ fun H2 e2 => ⟨Or.inl ⟨rfl, _, sq_of (e2 _ _ (e1 _ _ hx))⟩, l, _, nV s, rfl, rfl, e2 _ _ (e1 _ _ hx), by simp, by
    rw [List.dropLast_concat]
    exact ⟨d, v, rfl, by rw [← hv]; exact ((h.exx (e1.trans e2)).upd_other hne).get, k H2 (e1.trans e2)⟩⟩
theorem ok_tree_from (T : Txt K mg) : Good P w K mg base CX0 1 "tree_from" ["family", "roots", "state"] spTree := by
  refine Good.of T (j := 20) (i := 32) rfl rfl sc_tree_from (fun _ _ _ _ _ _ us hl => match us, hl with | [_, _, _], _ => rfl) (fun vs H Q E h => ?_) (fun cdv A outer s0 H vs Q E hr h => ?_)
  · obtain ⟨f, L, F, d, g, n, s, W, wt, rfl, _⟩ := h
    rfl
  · obtain ⟨f, L, F, d, g, n, s, W, wt, rfl, hF, hd, hg, hs, hw, q⟩ := h
    refine ⟨_, (pss_cons (ps_set (i := 3) sc_tree_from.nd rfl (.inl rfl) (pe_lst pa_nil))
(pss_cons (ps_set (i := 4) sc_tree_from.nd rfl (.inl rfl) (pe_lst (pa_cons (pv 2) pa_nil)))
(pss_cons (ps_while PassesOwn.never (pt_tru (pv 4) (by intro _; rfl))
(pss_cons (ps_set (i := 5) sc_tree_from.nd rfl (.inl rfl) (pe_dget (hu_of hr) (pv 1) (pe_bm0 PySem.F.plainAttrs_list PySem.F.slot_list_pop PySem.F.type_list_pop mt_pop (pv 4)) (fun _ _ => rfl)))
(pss_cons (ps_expr (pe_bm PySem.F.plainAttrs_list PySem.F.slot_list_append PySem.F.type_list_append mt_append (pv 3) (pa_cons (pv 5) pa_nil)))
(pss_one (ps_expr (pe_bm PySem.F.plainAttrs_list PySem.F.slot_list_extend PySem.F.type_list_extend mt_extendT (pv 4) (pa_cons (pe_revT (pe_ix ix_tup (pe_ix ix_tup (pe_ix ix_tup (pv 0) pe_int (fun _ _ => rfl)) (pv 5) (fun _ _ => rfl)) pe_int (fun _ _ => rfl))) pa_nil)))))))
(pss_one (ps_ret (pe_callTy call_tuple_of (by rfl) T.m_tuple (by decide +kernel) (pa_cons (pv 3) pa_nil))))))), ?_⟩
    have ok := hF.ok
    refine s_asgL (el_lst ea_nil (by decide)) fun c H1 nc e1 hc => ?_
    refine s_asgL (el_lst (ea_cons (ev_var rfl) ea_nil) (by show 1 ≤ 100000; decide)) fun b H2 nb e2 hb => ?_
    have nbH := fresh_back e1 nb
    have hcb : c ≠ b := fun z => by rw [← z, hc] at nb; cases nb
    refine s_while (fun m σ' H' => ∃ (ws ns : List Nat) (z : Wt) (y5 : Option V), σ' = [some (.ref f), some (.ref d), some (nV s), some (.ref c), some (.ref b), y5] ∧ Ex H H' ∧ H' c = some (.lst (ns.map nV)) ∧ H' b = some (.lst (ws.reverse.map nV)) ∧ wS W ws = some z ∧ ns.length + z.2 = wt.2 ∧ ws.length ≤ 1 + 3 * ns.length ∧
      (∀ t, Fo F ws t → Fo F [s] (ns ++ t)) ∧ m = z.2) _ ⟨[s], [], wt, none, rfl, e1.trans e2, e2 _ _ hc, hb, wS_cons.mpr ⟨wt, (0, 0), hs, rfl, by simp⟩, Nat.zero_add _, Nat.le_refl _, fun t ht => ht, rfl⟩ (fun m σ' H' hW => ?_)
    obtain ⟨ws, ns, z, y5, rfl, eH, hc', hb', hz, hln, hwl, hfo, rfl⟩ := hW
    refine ⟨_, et_lst (ev_var rfl) hb', fun hne H5 e5 => ⟨_, fun σ2 H2 z => z, ?_⟩, fun hne H5 e5 => ?_⟩
    · cases ws with
      | nil => cases hne
      | cons p wr =>
        obtain ⟨a, r, h1, h2, rfl⟩ := wS_cons.mp hz
        obtain ⟨v, hv⟩ := Option.isSome_iff_exists.mp (hg.all p a h1)
        obtain ⟨i, x, wx, rfl, hx, rfl, hwx, hWp⟩ := hg.val p v hv
        rw [h1] at hWp
        have := Option.some.inj hWp
        subst this
        obtain ⟨pr, sb, hpr, hsb, rfl⟩ := wOf_some.mp hwx
        have eH5 := eH.trans e5
        have hb5 := e5 _ _ hb'
        rw [List.reverse_cons, List.map_append] at hb5
        have hdb : b ≠ d := fun zz => by
          obtain ⟨kvs, k1, _⟩ := (hd.exx eH5).ex
          rw [← zz, hb5] at k1
          cases k1
        have hsl := ok.s3 x (get_mem hx)
        refine s_dgetPop (s := x.plug) (ev_var rfl) (ev_var rfl) (hd.exx eH5) hb5 hdb hv fun H6 e6 => ?_
        have eH6 := Ex.mut (o := .lst (wr.reverse.map nV)) (eH5.trans e6) nbH
        have hc6 : (upd H6 b (.lst (wr.reverse.map nV))) c = some (.lst (ns.map nV)) := by rw [upd_ne hcb]; exact e6 _ _ (e5 _ _ hc')
        have hb6 : (upd H6 b (.lst (wr.reverse.map nV))) b = some (.lst (wr.reverse.map nV)) := upd_same
        generalize upd H6 b (.lst (wr.reverse.map nV)) = H7 at *
        have hnl : ns.length ≤ 1000 := by have := hln; omega
        refine s_appE (v := nV i) hc6 (ev_var rfl) (ev_var rfl) (by rw [List.length_map]; omega) fun H8 e8 => ?_
        have eH8 := Ex.mut (o := .lst (ns.map nV ++ [nV i])) (eH6.trans e8) nc
        have hb8 : (upd H8 c (.lst (ns.map nV ++ [nV i]))) b = some (.lst (wr.reverse.map nV)) := by rw [upd_ne (fun zz => hcb zz.symm)]; exact e8 _ _ hb6
        have hc8 : (upd H8 c (.lst (ns.map nV ++ [nV i]))) c = some (.lst (ns.map nV ++ [nV i])) := upd_same
        generalize upd H8 c (.lst (ns.map nV ++ [nV i])) = H9 at *
        have hF9 := hF.ex eH8
        have hv9 := hF9.h3 i x hx
        rw [List.length_cons] at hwl
        refine s_extT (zs := x.slots.reverse.map nV) hb8 (ev_var rfl) (by rw [List.map_reverse]; exact et_rev (et_of (ev_v1 (ev_ixT (ev_f2 (ev_var rfl) hF9) (ev_var rfl) hF9.h2 (FamAt.at F L (get_lt hx))) hv9) hv9.hs)) (by rw [List.length_map, List.length_map, List.length_reverse, List.length_reverse]; omega) fun H10 e10 => ?_
        refine ⟨sb.2 + r.2, by show sb.2 + r.2 < 1 + sb.2 + r.2; omega, x.slots ++ wr, ns ++ [i], (sb.1 + r.1, sb.2 + r.2), _, rfl, Ex.mut (eH8.trans e10) nbH, by rw [upd_ne hcb, e10 _ _ hc8, List.map_append] <;> rfl, by rw [upd_same, List.reverse_append, List.map_append], wS_app hsb h2, ?_, ?_, fun t ht => ?_, rfl⟩
        · rw [List.length_append]
          show ns.length + 1 + (sb.2 + r.2) = wt.2
          have : ns.length + (1 + sb.2 + r.2) = wt.2 := hln
          omega
        · rw [List.length_append, List.length_append]
          show x.slots.length + wr.length ≤ 1 + 3 * (ns.length + 1)
          omega
        · rw [List.append_assoc]
          exact hfo (i :: t) (.cons hx (by rw [hpr] <;> rfl) ht)
    · cases ws with
      | cons p wr =>
        have : (p :: wr).reverse.map nV = [] := by simpa using hne
        simp at this
      | nil =>
        have e0 : z = (0, 0) := (Option.some.inj hz).symm
        subst e0
        refine s_retT (et_tupleL (ev_var rfl) (e5 _ _ hc')) fun r H6 e6 hr6 => q r ns H6 (eH.trans (e5.trans e6)) hr6 ?_ hln
        have := hfo [] .nil
        rw [List.append_nil] at this
        exact this
end
end S
end

section
set_option Elab.async false
set_option linter.all false
set_option autoImplicit false
set_option maxRecDepth 100000
set_option maxHeartbeats 2000000
namespace S
open PySem PySem.Spec PyProof.Rows L2 Evl
/-! ### a def with a keyword-only default -/
structure GoodK (P : Program) (w : World) (K : PySem.W.Frag) (mg : Str → Option Value) (base : Heap) (k : Nat) (x : Str) (ps : List Str) (n : Nat) (kw : Str) (dv : V) (sp : Sp) : Prop where
  ex : ∃ fd, FnOk P w K mg base CX0 k (He.ga K x) fd ps sp ∧ (∃ ds, Vals [dv] ds ∧ Binds K fd ps ds) ∧ ∃ (g : List Value → List Value → List Value), KBn K fd ps n [kw] g (fun vs zs => vs ++ zs)
  gl : mg x = some (.ref (He.ga K x))
  kp : PySem.W.keepIn K (.ref (He.ga K x)) = true
theorem GoodK.mono {P : Program} {w : World} {K : PySem.W.Frag} {mg : Str → Option Value} {base : Heap} {j k n : Nat} {x kw : Str} {ps : List Str} {dv : V} {sp : Sp} (G : GoodK P w K mg base j x ps n kw dv sp) (h : j ≤ k) : GoodK P w K mg base k x ps n kw dv sp := by
  obtain ⟨⟨fd, F, b⟩, g, kp⟩ := G
  exact ⟨⟨fd, F.mono h, b⟩, g, kp⟩
section
variable {X : Cx} {k n : Nat} {x kw : Str} {ps : List Str} {dv : V} {sp : Sp} {p pos : Pos} {e : Expr} {es : List Expr} {kws : List Keyword} {t tk : TA}
theorem pe_way (G : GoodK X.prog X.w X.K X.mg X.base k x ps n kw dv sp) (hr : Room k X.A) (ha : PA X (e :: es) t) (hg : Gl X x := by rfl) (hdb : (x == ("__debug__" : Str)) = false := by decide)
    (he : starEach (e :: es) X.env = (false, eval e X.env) :: starEach es X.env := by rfl) (hpl : (backTo pos (starEach es X.env)).any (·.1) = false := by rfl) :
    PE X (.Call (.Name x p) (e :: es) [] pos) (tCall sp [dv] E0 t) := by
  obtain ⟨⟨fd, F, ⟨ds, hd, b⟩, _⟩, g, kp⟩ := G
  exact pe_call F hr hg g kp b hd pass0 ha hdb he hpl
theorem pe_wayK (G : GoodK X.prog X.w X.K X.mg X.base k x ps n kw dv sp) (hr : Room k X.A) (ha : PA X (e :: es) t) (hkw : PK X kws tk) (hg : Gl X x := by rfl) (hdb : (x == ("__debug__" : Str)) = false := by decide)
    (hall : (backToKw pos (keywordEach kws X.env)).all (·.1.isSome) = true := by rfl) (hks : (backToKw pos (keywordEach kws X.env)).filterMap (·.1) = [kw] := by rfl)
    (he : starEach (e :: es) X.env = (false, eval e X.env) :: starEach es X.env := by rfl)
    (hpl : ((backTo pos (starEach (e :: es) X.env)).any (·.1) || (backToKw pos (keywordEach kws X.env)).any (·.1.isNone)) = false := by rfl) :
    PE X (.Call (.Name x p) (e :: es) kws pos) (tCallN n 1 sp (fun vs zs => vs ++ zs) E0 t tk) := by
  obtain ⟨⟨fd, F, _, gg, b⟩, g, kp⟩ := G
  exact pe_callN F hr hg g kp b pass0 ha hkw hall hks hdb he hpl
end
section
variable {K : PySem.W.Frag} {σ : L2.St} {H H' : Hp} {ta tb te tl : TE} {t : TT} {g : TG}
/-- over a list that stands, any target -/
theorem el_lcG {α : Type} {vs : List Nat} {a0 : Addr} (l : List α) (c : α → V) (f : α → Bool) (gg : α → V) (st : α → L2.St) (h : Ev tl σ H (.ref a0)) (hx : H a0 = some (.lst (l.map c))) (hz : l.length ≤ 40000)
    (hg : ∀ a, a ∈ l → ∀ H1, Ex H H1 → ∀ R : L2.St → Hp → Prop, R (st a) H1 → g (c a) (wipe σ vs) H1 R) (hw : ∀ a, wipe (st a) vs = wipe σ vs)
    (ht : ∀ a, a ∈ l → ∀ H1, Ex H H1 → EvT t (st a) H1 (f a)) (he : ∀ a, a ∈ l → f a = true → ∀ H1, Ex H H1 → Ev te (st a) H1 (gg a)) :
    EvL (tLc (iList K tl) g t te vs) σ H ((l.filter f).map gg) := fun H0 e Q q => h H0 e _ fun H1 e1 => ⟨a0, rfl, ⟨_, SqL.of (e1 _ _ (e _ _ hx))⟩, fun Dl hD =>
  lc_list (xs := l.map c) (fun i H' => H1 Dl = none ∧ Ex H1 H' ∧ H' Dl = some (.lst (((l.take i).filter f).map gg))) ⟨hD, Ex.new hD, upd_same⟩ (fun i H' _ p => SqL.of (p.2.1 _ _ (e1 _ _ (e _ _ hx))))
    (fun i x H' hi p => by
      obtain ⟨a, ha, rfl⟩ := map_get hi
      exact hg a (get_mem ha) H' ((e.trans e1).trans p.2.1) _ ⟨hw a, cw_turn2 ha hz p (ht a (get_mem ha) H1 (e.trans e1)) (fun hf => he a (get_mem ha) hf H1 (e.trans e1))⟩)
    (fun H' p => q Dl H' (fresh_back e1 p.1) (e1.trans p.2.1) (by
      rw [List.length_map, List.take_length] at p
      exact p.2.2))⟩
/-- min of a list -/
theorem ev_min {p : Addr} {ns : List Int} {D : Ends} {R : VK} (h : Ev te σ H (.ref p)) (hp : H p = some (.lst (ns.map V.int))) (hne : 0 < ns.length) (k : ∀ m H1, Ex H H1 → m ∈ ns → (∀ y, y ∈ ns → m ≤ y) → R (.int m) H1) :
    tCB (rMin K) (tCons te tNil) σ H R := h H (Ex.refl H) _ fun H1 e1 => ⟨p, ns, rfl, SqL.of (e1 _ _ hp), hne, fun m h1 h2 => k m H1 e1 h1 h2⟩
end
end S
end

section
set_option Elab.async false
set_option linter.all false
set_option autoImplicit false
set_option maxRecDepth 100000
set_option maxHeartbeats 4000000
namespace S
open PySem PySem.Spec PyProof.Rows L2 Evl
section
variable {P : Program} {w : World} {K : PySem.W.Frag} {mg : Str → Option Value} {base : Heap}
theorem StepsOk.p4 {F : Fam} (ok : F.Ok) {l : List (Addr × Stp)} (h : StepsOk F l) : ∀ q, q ∈ l → q.2.1 < 4 := fun q hq => by
  obtain ⟨a, p, i, j, s⟩ := q
  have := ((h.mem p i j s).mp ⟨a, hq⟩).at.lt ok
  have := ok.c4
  show p < 4
  omega
theorem ex_steps {σ : L2.St} {H : Hp} {ta : TE} {f : Addr} {L : Lay} {F : Fam} (ha : Ev ta σ H (.ref f)) (hF : FamAt H f L F) :
    EX (tCall spSteps [] E0 (tCons ta tNil)) σ H (fun v H' => ∃ p l, v = .ref p ∧ StepsAt H' p l ∧ StepsOk F l) :=
  ex_call (ea_cons ha ea_nil) fun H1 e Q q E => ⟨f, L, F, rfl, hF.ex e, fun p H' l e' h1 h2 => q _ H' e' ⟨p, l, rfl, h1, h2⟩⟩
theorem ex_dist {σ : L2.St} {H : Hp} {ta tb : TE} {p : Addr} {goal : Nat} {l : List (Addr × Stp)} (ha : Ev ta σ H (.ref p)) (hb : Ev tb σ H (nV goal)) (hl : StepsAt H p l) (h4 : ∀ q, q ∈ l → q.2.1 < 4) :
    EX (tCall spDist [] E0 (tCons ta (tCons tb tNil))) σ H (fun v H' => ∃ d g, v = .ref d ∧ DkAt H' d g 5 ∧ DistOk l goal g) :=
  ex_call (ea_cons ha (ea_cons hb ea_nil)) fun H1 e Q q E => ⟨p, goal, l, rfl, hl.ex e, h4, fun d H' g e' h1 h2 => q _ H' e' ⟨d, g, rfl, h1, h2⟩⟩
theorem edgeL_iff {F : Fam} {l : List (Addr × Stp)} (h : StepsOk F l) {p s : Nat} : EdgeL l p s ↔ Edge F p s :=
  ⟨fun ⟨i, j, z⟩ => ⟨i, j, (h.mem p i j s).mp z⟩, fun ⟨i, j, z⟩ => ⟨i, j, (h.mem p i j s).mpr z⟩⟩
theorem DistOk.lead {F : Fam} {l : List (Addr × Stp)} {goal : Nat} {g : Nat → Option V} (h : DistOk l goal g) (hl : StepsOk F l) (t : Nat) : (g t).isSome = true ↔ Lead F goal t := by
  constructor
  · intro hs
    obtain ⟨v, hv⟩ := Option.isSome_iff_exists.mp hs
    obtain ⟨n, rfl, -⟩ := h.val t v hv
    clear hs
    induction n generalizing t with
    | zero =>
      obtain ⟨n', e, _, h0, _⟩ := h.val t _ hv
      have : n' = 0 := by have := V.int.inj e; omega
      rw [h0 this]
      exact .refl
    | succ n ih =>
      obtain ⟨n', e, _, _, hs⟩ := h.val t _ hv
      have : n' = n + 1 := by have := V.int.inj e; omega
      obtain ⟨s, he, hg⟩ := hs n this
      exact .step ((edgeL_iff hl).mp he) (ih s hg)
  · intro hl'
    induction hl' with
    | refl => rw [h.g0] <;> rfl
    | step he _ ih => exact h.closed _ _ ((edgeL_iff hl).mpr he) ih
/-! ### first_way -/
def WayAt (H : Hp) (r : Addr) (way : List (Nat × Nat)) : Prop := ∃ ls : List (Addr × (Nat × Nat)), ls.map (·.2) = way ∧ H r = some (.tup (ls.map fun q => V.ref q.1)) ∧ ∀ q ∈ ls, H q.1 = some (.tup [nV q.2.1, nV q.2.2])
theorem WayAt.ex {H H' : Hp} {r : Addr} {way : List (Nat × Nat)} (h : WayAt H r way) (e : Ex H H') : WayAt H' r way := by
  obtain ⟨ls, h1, h2, h3⟩ := h
  exact ⟨ls, h1, e _ _ h2, fun q hq => e _ _ (h3 q hq)⟩
def spWay : Sp := fun vs H Q _ => ∃ (f : Addr) (L : Lay) (F : Fam) (p : Addr) (starts : List Nat) (goal : Nat) (lst : Int), vs = [.ref f, .ref p, nV goal, .int lst] ∧ FamAt H f L F ∧ H p = some (.tup (starts.map nV)) ∧
  ((lst = 0 ∧ goal ∈ starts) ∨ (∃ a ∈ starts, ∃ b, Edge F a b ∧ Lead F goal b)) ∧ ∀ r way H', Ex H H' → WayAt H' r way → (∃ a ∈ starts, Chain F a way goal) → (lst ≠ 0 → way ≠ []) → way.length ≤ 5 → Q (.ref r) H'
def dnO : Option V → Nat
  | some (.int n) => n.toNat
  | _ => 0
theorem s_asg4 {σ : L2.St} {H : Hp} {te : TE} {D : Ends} {i j k m : Nat} {x y z u : V} (h : ET te σ H [x, y, z, u]) (q : ∀ H1, Ex H H1 → D.nx ((((σ.set i (some x)).set j (some y)).set k (some z)).set m (some u)) H1) :
    tAsg te (gTup K 4 (gCons (gName i) (gCons (gName j) (gCons (gName k) (gCons (gName m) gNil))))) D σ H := h H (Ex.refl H) _ fun p H1 e hp => ⟨p, _, rfl, SqT.of hp, rfl, x, _, rfl, y, _, rfl, z, _, rfl, u, _, rfl, rfl, q H1 e⟩
theorem sc_first_way : FnScope ["family", "starts", "goal", "least", "steps", "distances", "_", "state", "lengths", "way", "states", "left", "fitting", "number", "index", "plug", "step"] ["family", "starts", "goal", "least"] (defScope (top 36)) := ⟨rfl, rfl, rfl, by decide +kernel, rfl, by decide +kernel, by decide +kernel⟩
-- slots: 0 family, 1 starts, 2 goal, 3 least, 4 steps, 5 distances, 6 _, 7 state, 8 lengths, 9 way, 10 states, 11 left, 12 fitting, 13 number, 14 index, 15 plug, 16 step

theorem ok_first_way (T : Txt K mg) : GoodK P w K mg base 5 "first_way" ["family", "starts", "goal", "least"] 3 "least" (.int 0) spWay := by
  have G_steps_of : Good P w K mg base CX0 4 "steps_of" ["family"] spSteps := ok_steps_of T
  have G_distances_to : Good P w K mg base CX0 4 "distances_to" ["steps", "goal"] spDist := (ok_distances_to T).mono (by decide)
  obtain ⟨⟨fd, F0⟩, gl⟩ := fun_of T 23 36 "first_way" [("least", .int 0)] rfl rfl
  refine ⟨⟨fd, ?_, F0.binds0 (ps := ["family", "starts", "goal", "least"]) 3 (by intro z; cases z) rfl (fun D doc pm an cdv ct us ks hl hk => match us, hl, ks, hk with | [_, _, _], _, [_], _ => ⟨_, _, _, _, _, _, rfl, rfl, rfl⟩), ?_⟩, gl, F0.kp⟩
  rotate_left
  · obtain ⟨mv, b⟩ := F0.kbinds0 (ps := ["family", "starts", "goal", "least"]) 3 ["least"] [] (fun us _ ws => us ++ ws) (by intro z; cases z) (fun q hq => absurd hq List.not_mem_nil) (fun h1 _ h3 => h1.append h3) (fun D doc pm an cdv ct us mv ws hl hm hw => match us, hl, mv, hm, ws, hw with | [_, _, _], _, [], _, [_], _ => rfl)
    exact ⟨_, b⟩
  refine F0.ok sc_first_way (fun vs H Q E h => ?_) fun cdv A outer s H vs Q E hr h => ?_
  · obtain ⟨f, L, F, p, starts, goal, lst, rfl, _⟩ := h
    rfl
  · obtain ⟨f, L, F, p, starts, goal, lst, rfl, hF, hp, hcond, q⟩ := h
    refine ⟨_, PSs.nox (pss_cons (ps_if (PW.pt (pw_and (pt_cmpR op_eq (pv 3) pe_int (nomark _)) (pw_and1 (pt_cmpR op_in_seq (pv 2) (pv 1) (by rfl)))))
(pss_one (ps_ret (pe_tup pa_nil))) pss_nil)
(pss_cons (ps_set (i := 4) sc_first_way.nd rfl (.inl rfl) (pe_c G_steps_of hr (pa_cons (pv 0) pa_nil)))
(pss_cons (ps_set (i := 5) sc_first_way.nd rfl (.inr rfl) (pe_c G_distances_to hr (pa_cons (pv 4) (pa_cons (pv 2) pa_nil))))
(pss_cons (ps_setLc (i := 8) (own := [("plug", 15), ("_", 6), ("state", 7)]) rfl sc_first_way.nd rfl rfl (sw_true rfl rfl rfl (by decide +kernel)) (pi_list (pv 4)) (blkOk_by (own := [("plug", 15), ("_", 6), ("state", 7)]) (N := ["family", "starts", "goal", "least", "steps", "distances", "_", "state", "lengths", "way", "states", "left", "fitting", "number", "index", "plug", "step"]) (sc := defScope (top 36)) (by decide +kernel)) (fun _ _ _ _ _ => (k_pgT (K := K) rfl (pg_tup (n := 4) (by rfl) (pgs_cons (pg_name (i := 15) sc_first_way.nd rfl (.inl rfl)) (pgs_cons (pg_name (i := 6) sc_first_way.nd rfl (.inl rfl)) (pgs_cons (pg_name (i := 6) sc_first_way.nd rfl (.inl rfl)) (pgs_cons (pg_name (i := 7) sc_first_way.nd rfl (.inl rfl)) pgs_nil))))))) (fun _ _ _ _ _ => (pts_one (PW.pt (pw_and (pt_cmpR (k_in (K := K) rfl) (pv 15) (pv 1) (by rfl)) (pw_and1 (pt_cmp (pc_din (hu_of hr) (pv 7) (pv 5)))))))) (fun _ _ _ _ _ => (pe_op op_add (pe_dget (hu_of hr) (pv 5) (pv 7) (fun _ _ => rfl)) pe_int)))
(pss_cons (ps_if (pt_not (pt_tru (pv 8) (by intro _; rfl)))
(pss_one (ps_ret pe_non)) pss_nil)
(pss_cons (ps_set (i := 9) sc_first_way.nd rfl (.inl rfl) (pe_lst pa_nil))
(pss_cons (ps_set (i := 10) sc_first_way.nd rfl (.inr rfl) (pv 1))
(pss_cons (ps_for PassesOwn.never rfl (pi_range3 (by rfl) T.m_range (pa_cons (pe_op op_sub (pe_callB (cr_min rfl) (by rfl) T.m_min (by decide +kernel) (pa_cons (pv 8) pa_nil)) pe_int) (pa_cons (pe_un un_neg pe_int) (pa_cons (pe_un un_neg pe_int) pa_nil)))) (pg_name (i := 11) sc_first_way.nd rfl (.inr rfl))
(pss_cons (ps_setLc (i := 12) (own := [("step", 16)]) rfl sc_first_way.nd rfl rfl (sw_true rfl rfl rfl (by decide +kernel)) (pi_list (pv 4)) (blkOk_by (own := [("step", 16)]) (N := ["family", "starts", "goal", "least", "steps", "distances", "_", "state", "lengths", "way", "states", "left", "fitting", "number", "index", "plug", "step"]) (sc := defScope (top 36)) (by decide +kernel)) (fun _ _ _ _ _ => (pg_name (i := 16) sc_first_way.nd rfl (.inl rfl))) (fun _ _ _ _ _ => (pts_one (PW.pt (pw_and (pt_cmpR (k_in (K := K) rfl) (pe_ix (k_ixT (K := K) rfl) (pv 16) pe_int (fun _ _ => rfl)) (pv 10) (by rfl)) (pw_and1 (pt_cmpR op_eq (pe_dget1 (hu_of hr) (pv 5) (pe_ix (k_ixT (K := K) rfl) (pv 16) pe_int (fun _ _ => rfl)) ⟨rfl, rfl, rfl, rfl⟩) (pv 11) (nomark _))))))) (fun _ _ _ _ _ => (pv 16)))
(pss_cons (ps_asg (pe_ix ix_list (pv 12) pe_int (fun _ _ => rfl)) (pg_tup (by rfl) (pgs_cons (pg_name (i := 6) sc_first_way.nd rfl (.inl rfl)) (pgs_cons (pg_name (i := 13) sc_first_way.nd rfl (.inl rfl)) (pgs_cons (pg_name (i := 14) sc_first_way.nd rfl (.inl rfl)) (pgs_cons (pg_name (i := 7) sc_first_way.nd rfl (.inl rfl)) pgs_nil))))))
(pss_cons (ps_expr (pe_bm PySem.F.plainAttrs_list PySem.F.slot_list_append PySem.F.type_list_append mt_append (pv 9) (pa_cons (pe_tup (pa_cons (pv 13) (pa_cons (pv 14) pa_nil))) pa_nil)))
(pss_one (ps_set (i := 10) sc_first_way.nd rfl (.inr rfl) (pe_tup (pa_cons (pv 7) pa_nil))))))))
(pss_one (ps_ret (pe_callTy call_tuple_of (by rfl) T.m_tuple (by decide +kernel) (pa_cons (pv 9) pa_nil)))))))))))), ?_⟩
    have ok := hF.ok
    have c4 := ok.c4
    refine s_if (b := decide (V.int lst = V.int 0) && decide (goal ∈ starts)) (et_and (et_test (ev_op (ev_var rfl) ev_c (rv_eq rfl))) fun _ => et_test (ev_inT (s := goal) (ev_var rfl) (ev_var rfl) hp)) (fun hb H1 e1 => ?_) (fun hb H1 e1 => ?_)
    · obtain ⟨b1, b2⟩ := Bool.and_eq_true_iff.mp hb
      have h0 : lst = 0 := V.int.inj (of_decide_eq_true b1)
      exact s_retT (et_new (eu_tup ea_nil (by decide))) fun r H2 e2 hr2 => q r [] H2 (e1.trans e2) ⟨[], rfl, hr2, fun q hq => absurd hq List.not_mem_nil⟩ ⟨goal, of_decide_eq_true b2, .nil⟩ (fun z => absurd h0 z) (by decide)
    · have hex : ∃ a ∈ starts, ∃ b, Edge F a b ∧ Lead F goal b := by
        rcases hcond with ⟨h1, h2⟩ | h
        · rw [h1, decide_eq_true h2] at hb
          simp at hb
        · exact h
      refine s_asgX (ex_steps (ev_var rfl) (hF.ex e1)) fun v H2 e2 hv => ?_
      obtain ⟨sa, l, rfl, hl, hok⟩ := hv
      refine s_asgX (ex_dist (ev_var rfl) (ev_var rfl) hl (hok.p4 ok)) fun v H3 e3 hv => ?_
      obtain ⟨d, g, rfl, hd, hdist⟩ := hv
      have e13 := e1.trans (e2.trans e3)
      have hp3 := e13 _ _ hp
      have hl3 := hl.ex e3
      have hl36 := hok.len
      refine s_asgL (el_lcG (K := K) (vs := [15, 6, 7]) (a0 := sa) l (fun q => V.ref q.1) (fun q => decide (q.2.1 ∈ starts) && (g q.2.2.2.2).isSome) (fun q => V.int ((dnO (g q.2.2.2.2) : Int) + 1)) (fun q => [some (.ref f), some (.ref p), some (nV goal), some (.int lst), some (.ref sa), some (.ref d), some (nV q.2.2.2.1), some (nV q.2.2.2.2), none, none, none, none, none, none, none, some (nV q.2.1), none]) (ev_var rfl) hl3.h (by omega)
        (fun q hq H4 e4 R hR => ⟨q.1, _, rfl, SqT.of (e4 _ _ (hl3.each q hq)), rfl, _, _, rfl, _, _, rfl, _, _, rfl, _, _, rfl, rfl, hR⟩) (fun _ => rfl)
        (fun q hq H4 e4 => et_and (et_test (ev_inT (s := q.2.1) (ev_var rfl) (ev_var rfl) (e4 _ _ hp3))) fun _ => et_B (ev_din (s := q.2.2.2.2) (ev_var rfl) (ev_var rfl) (hd.exx e4)))
        (fun q hq hf H4 e4 => ?_)) fun la H4 nla e4 hla => ?_
      · obtain ⟨_, h2⟩ := Bool.and_eq_true_iff.mp hf
        obtain ⟨v, hv⟩ := Option.isSome_iff_exists.mp h2
        obtain ⟨n, rfl, _⟩ := hdist.val _ _ hv
        have : dnO (g q.2.2.2.2) = n := by rw [hv]; exact Int.toNat_natCast n
        rw [this]
        exact ev_op (ev_dget (s := q.2.2.2.2) (v := nV n) (ev_var rfl) (ev_var rfl) (hd.exx e4) hv) ev_c rv_I0
      · generalize hlf : l.filter (fun q => decide (q.2.1 ∈ starts) && (g q.2.2.2.2).isSome) = lf at *
        have hne : lf ≠ [] := by
          obtain ⟨a, ha, b, hab, hbg⟩ := hex
          obtain ⟨i, j, hs⟩ := hab
          obtain ⟨ad, hq⟩ := (hok.mem a i j b).mpr hs
          intro z
          have : (ad, (a, i, j, b)) ∈ lf := by
            rw [← hlf]
            exact List.mem_filter.mpr ⟨hq, Bool.and_eq_true_iff.mpr ⟨decide_eq_true ha, (hdist.lead hok b).mpr hbg⟩⟩
          rw [z] at this
          exact absurd this List.not_mem_nil
        refine s_if (et_not (et_lst (ev_var rfl) hla)) (fun hb5 H5 e5 => ?_) (fun hb5 H5 e5 => ?_)
        · cases lf with
          | nil => exact absurd rfl hne
          | cons a r => simp at hb5
        · refine s_asgL (el_lst ea_nil (by decide)) fun wa H6 nw e6 hwa => ?_
          refine s_asg (ev_var rfl) fun H7 e7 => ?_
          have e47 := e5.trans (e6.trans e7)
          have hla7 := e47 _ _ hla
          have eH7 := e13.trans (e4.trans e47)
          have nwH : H wa = none := fresh_back (e13.trans (e4.trans e5)) nw
          have hla' : H7 la = some (.lst ((lf.map fun q => (dnO (g q.2.2.2.2) : Int) + 1).map V.int)) := by
            rw [List.map_map]
            exact hla7
          refine ev_min (D := { nx := fun _ _ => True, rt := fun _ _ => True }) (te := tVar 8) (ev_var rfl) hla' (by
            cases lf with
            | nil => exact absurd rfl hne
            | cons a r => rw [List.length_map, List.length_cons]; omega) fun m H8 e8 hm hmin => ?_
          obtain ⟨q0, hq0, rfl⟩ := List.mem_map.mp hm
          rw [← hlf] at hq0
          obtain ⟨hq0l, hq0f⟩ := List.mem_filter.mp hq0
          obtain ⟨hq0s, hq0g⟩ := Bool.and_eq_true_iff.mp hq0f
          obtain ⟨v0, hv0⟩ := Option.isSome_iff_exists.mp hq0g
          obtain ⟨N, rfl, hN4, _⟩ := hdist.val _ _ hv0
          have hN : dnO (g q0.2.2.2.2) = N := by rw [hv0]; exact Int.toNat_natCast N
          rw [hN]
          have hR : RgC ((N : Int) + 1 - 1) (-1) (-1) (N + 1) := by
            have h1 := RgC.neg (i := (N : Int) + 1 - 1) (j := -1) (by omega) (by omega) (by omega) (by omega)
            have e : (((N : Int) + 1 - 1) - (-1)).toNat = N + 1 := by omega
            rw [e] at h1
            exact h1
          have eH8 := eH7.trans e8
          refine ⟨_, _, rfl, rfl, _, rfl, _, rfl, _, _, _, N + 1, rfl, hR, for_rangeC (fun i σ' H' => ∃ (ps : Addr) (sts : List Nat) (ls : List (Addr × (Nat × Nat))) (y6 y7 y11 y12 y13 y14 : Option V), σ' = [some (.ref f), some (.ref p), some (nV goal), some (.int lst), some (.ref sa), some (.ref d), y6, y7, some (.ref la), some (.ref wa), some (.ref ps), y11, y12, y13, y14, none, none] ∧
            Ex H H' ∧ StepsAt H' sa l ∧ DkAt H' d g 5 ∧ H' wa = some (.lst (ls.map fun q => V.ref q.1)) ∧ (∀ q ∈ ls, H' q.1 = some (.tup [nV q.2.1, nV q.2.2])) ∧ H' ps = some (.tup (sts.map nV)) ∧ ls.length = i ∧ (∀ c ∈ sts, ∃ a ∈ starts, Chain F a (ls.map (·.2)) c) ∧
            (i ≤ N → ∃ q ∈ l, q.2.1 ∈ sts ∧ g q.2.2.2.2 = some (nV (N - i))) ∧ (0 < i → ∃ cur, sts = [cur] ∧ g cur = some (nV (N + 1 - i))))
            ⟨p, starts, [], none, none, none, none, none, none, rfl, eH8, (hl3.ex (e4.trans e47)).ex e8, (hd.exx (e4.trans e47)).exx e8, e8 _ _ (e7 _ _ hwa), fun q hq => absurd hq List.not_mem_nil, e8 _ _ (eH7 _ _ hp), rfl, fun c hc => ⟨c, hc, .nil⟩, fun _ => ⟨q0, hq0l, of_decide_eq_true hq0s, by rw [Nat.sub_zero]; exact hv0⟩, fun z => absurd z (Nat.lt_irrefl _)⟩ (fun i σ' H9 hi hW => ?_) (fun σ' H9 hW => ?_)⟩
          · obtain ⟨ps, sts, ls, y6, y7, y11, y12, y13, y14, rfl, eH, hl9, hd9, hwa9, hps9, hst9, hln, hch, hnx, hcur⟩ := hW
            obtain ⟨qn, hqn, hqs, hqg⟩ := hnx (by omega)
            have eleft : V.int (((N : Int) + 1 - 1) + (i : Nat) * (-1)) = nV (N - i) := by
              show V.int _ = V.int _
              congr 1
              omega
            rw [eleft]
            refine s_asgL (el_lcL' (K := K) (j := 16) (vs := [16]) (a0 := sa) l (fun q => V.ref q.1) (fun q => decide (q.2.1 ∈ sts) && decide ((g q.2.2.2.2).getD .non = nV (N - i))) (fun q => V.ref q.1) (ev_var rfl) hl9.h (by omega)
              (fun q hq H10 e10 => et_and (et_test (ev_inT (s := q.2.1) (ev_ixT (i := 0) (ev_var rfl) ev_c (e10 _ _ (hl9.each q hq)) rfl) (ev_var rfl) (e10 _ _ hst9))) fun _ => et_test (ev_op (ev_dget1 (s := q.2.2.2.2) (ev_var rfl) (ev_ixT (i := 3) (ev_var rfl) ev_c (e10 _ _ (hl9.each q hq)) rfl) (hd9.exx e10)) (ev_var rfl) (rv_eq (by
                cases z : g q.2.2.2.2 with
                | none => rfl
                | some v =>
                  obtain ⟨n, rfl, _⟩ := hdist.val _ _ z
                  rfl))))
              (fun q hq hf H10 e10 => ev_var rfl)) fun fa H10 nfa e10 hfa => ?_
            obtain ⟨q1, hq1⟩ : ∃ q1, (l.filter (fun q => decide (q.2.1 ∈ sts) && decide ((g q.2.2.2.2).getD .non = nV (N - i))))[0]? = some q1 := by
              have hm : qn ∈ l.filter (fun q => decide (q.2.1 ∈ sts) && decide ((g q.2.2.2.2).getD .non = nV (N - i))) := List.mem_filter.mpr ⟨hqn, Bool.and_eq_true_iff.mpr ⟨decide_eq_true hqs, by rw [hqg]; exact decide_eq_true rfl⟩⟩
              cases z : l.filter (fun q => decide (q.2.1 ∈ sts) && decide ((g q.2.2.2.2).getD .non = nV (N - i))) with
              | nil => rw [z] at hm; exact absurd hm List.not_mem_nil
              | cons a r => exact ⟨a, rfl⟩
            obtain ⟨hq1l, hq1f⟩ := List.mem_filter.mp (get_mem hq1)
            obtain ⟨f1, f2⟩ := Bool.and_eq_true_iff.mp hq1f
            have hq1s := of_decide_eq_true f1
            have hq1g : g q1.2.2.2.2 = some (nV (N - i)) := by
              have := of_decide_eq_true f2
              cases z : g q1.2.2.2.2 with
              | none => rw [z] at this; cases this
              | some v => rw [z] at this; exact congrArg some this
            obtain ⟨ad, p1, n1, i1, s1⟩ := q1
            have hst1 : IsStep F p1 n1 i1 s1 := (hok.mem p1 n1 i1 s1).mp ⟨ad, hq1l⟩
            have hl10 := hl9.ex e10
            refine s_asg4 (et_of (ev_ixL (i := 0) (ev_var rfl) ev_c hfa (get_map hq1)) (hl10.each _ hq1l)) fun H11 e11 => ?_
            have e1011 := e10.trans e11
            refine s_appT (zs := [nV n1, nV i1]) (e1011 _ _ hwa9) (ev_var rfl) (et_new (eu_tup (ea_cons (ev_var rfl) (ea_cons (ev_var rfl) ea_nil)) (by show 2 ≤ 100000; decide))) (by rw [List.length_map]; omega) fun r H12 e12 hr12 => ?_
            have eH12 := eH.trans (e1011.trans e12)
            have nwa : ∀ {x : Addr} {xs : List V}, H12 x = some (.tup xs) → x ≠ wa := fun hx z => by
              have := e12 _ _ (e1011 _ _ hwa9)
              rw [← z, hx] at this
              cases this
            have eHm := Ex.mut (o := .lst (ls.map (fun q => V.ref q.1) ++ [.ref r])) eH12 nwH
            refine s_asgT (et_new (eu_tup (ea_cons (ev_var rfl) ea_nil) (by show 1 ≤ 100000; decide))) fun ps2 H13 e13' hps2 => ?_
            have hsaw : sa ≠ wa := fun z => by
              have h1 := hl9.h
              rw [z, hwa9] at h1
              have h2 := hl3.h
              rw [z] at h2
              have h3 := (e4.trans e5) _ _ h2
              rw [nw] at h3
              cases h3
            have hdw : wa ≠ d := fun z => by
              obtain ⟨kvs, k1, _⟩ := hd9.ex
              rw [← z, hwa9] at k1
              cases k1
            obtain ⟨a, ha, hca⟩ := hch p1 hq1s
            refine ⟨ps2, [s1], ls ++ [(r, (n1, i1))], _, _, _, _, _, _, rfl, eHm.trans e13', ⟨?_, fun q hq => ?_⟩, (((hd9.exx e1011).exx e12).upd_other hdw).exx e13', ?_, fun q hq => ?_, hps2, by rw [List.length_append, hln] <;> rfl, fun c hc => ?_, fun hle => ?_, fun _ => ⟨s1, rfl, ?_⟩⟩
            · refine e13' _ _ ?_
              rw [upd_ne hsaw]
              exact e12 _ _ (e1011 _ _ hl9.h)
            · refine e13' _ _ ?_
              have h1 := e12 _ _ (e1011 _ _ (hl9.each q hq))
              rw [upd_ne (nwa h1)]
              exact h1
            · refine e13' _ _ ?_
              rw [upd_same, List.map_append] <;> rfl
            · refine e13' _ _ ?_
              rcases List.mem_append.mp hq with hq | hq
              · have h1 := e12 _ _ (e1011 _ _ (hps9 q hq))
                rw [upd_ne (nwa h1)]
                exact h1
              · rw [List.mem_singleton] at hq
                subst hq
                rw [upd_ne (nwa hr12)]
                exact hr12
            · rw [List.mem_singleton] at hc
              subst hc
              refine ⟨a, ha, ?_⟩
              rw [List.map_append]
              exact hca.snoc hst1
            · obtain ⟨n', en, _, _, hstep⟩ := hdist.val _ _ hq1g
              have hn' : n' = (N - (i + 1)) + 1 := by
                have := V.int.inj en
                omega
              obtain ⟨s', ⟨i', j', a', he'⟩, hg'⟩ := hstep (N - (i + 1)) hn'
              exact ⟨_, he', List.mem_singleton.mpr rfl, hg'⟩
            · rw [hq1g]
              congr 2
              omega
          · obtain ⟨ps, sts, ls, y6, y7, y11, y12, y13, y14, rfl, eH, hl9, hd9, hwa9, hps9, hst9, hln, hch, _, hcur⟩ := hW
            obtain ⟨cur, rfl, hcg⟩ := hcur (by omega)
            have hcur0 : cur = goal := by
              obtain ⟨n', en, _, h0, _⟩ := hdist.val _ _ hcg
              refine h0 ?_
              have := V.int.inj en
              omega
            subst hcur0
            refine s_retT (et_tupleL (ev_var rfl) hwa9) fun r H10 e10 hr10 => q r (ls.map (·.2)) H10 (eH.trans e10) ⟨ls, rfl, hr10, fun q hq => e10 _ _ (hps9 q hq)⟩ (hch cur (List.mem_singleton.mpr rfl)) (fun _ z => ?_) (by rw [List.length_map]; omega)
            have : ls = [] := by simpa using z
            rw [this] at hln
            cases hln
end
end S
end

section
set_option Elab.async false
set_option linter.all false
set_option autoImplicit false
set_option maxRecDepth 100000
set_option maxHeartbeats 4000000
namespace S
open PySem PySem.Spec PyProof.Rows L2 Evl
section
variable {P : Program} {w : World} {K : PySem.W.Frag} {mg : Str → Option Value} {base : Heap}
/-! ### repeated_state -/
theorem sc_repeated_state : FnScope ["family", "numbers", "steps", "state", "distances", "root", "step"] ["family"] (defScope (top 37)) := ⟨rfl, rfl, rfl, by decide +kernel, rfl, by decide +kernel, by decide +kernel⟩
-- slots: 0 family, 1 numbers, 2 steps, 3 state, 4 distances, 5 root, 6 step

def spRepeat : Sp := fun vs H Q _ => ∃ (f : Addr) (L : Lay) (F : Fam), vs = [.ref f] ∧ FamAt H f L F ∧ (∀ H', Ex H H' → (∀ r, r ∈ F.roots → FinS F r) → Q .non H') ∧ ∀ H' s, Ex H H' → (¬ ∀ r, r ∈ F.roots → FinS F r) → Circ F s → Q (nV s) H'
theorem ok_repeated_state (T : Txt K mg) : Good P w K mg base CX0 5 "repeated_state" ["family"] spRepeat := by
  have G_finite_counts : Good P w K mg base CX0 4 "finite_counts" ["family"] spFinite := (ok_finite_counts T).mono (by decide)
  have G_steps_of : Good P w K mg base CX0 4 "steps_of" ["family"] spSteps := ok_steps_of T
  have G_distances_to : Good P w K mg base CX0 4 "distances_to" ["steps", "goal"] spDist := (ok_distances_to T).mono (by decide)
  refine Good.of T (j := 24) (i := 37) rfl rfl sc_repeated_state (fun _ _ _ _ _ _ us hl => match us, hl with | [_], _ => rfl) (fun vs H Q E h => ?_) (fun cdv A outer s H vs Q E hr h => ?_)
  · obtain ⟨f, L, F, rfl, _⟩ := h
    rfl
  · obtain ⟨f, L, F, rfl, hF, q1, q2⟩ := h
    refine ⟨_, (pss_cons (ps_set (i := 1) sc_repeated_state.nd rfl (.inr rfl) (pe_c G_finite_counts hr (pa_cons (pv 0) pa_nil)))
(pss_cons (ps_if (pt_val (pe_callB (cr_all rfl) (by rfl) T.m_all (by decide +kernel) (pa_cons (pe_lc (own := [("root", 5)]) rfl sc_repeated_state.nd (pi_tup (pe_ix ix_tup (pv 0) pe_int (fun _ _ => rfl))) (blkOk_by (own := [("root", 5)]) (N := ["family", "numbers", "steps", "state", "distances", "root", "step"]) (sc := defScope (top 37)) (by decide +kernel)) (fun _ _ _ _ _ => (pg_name (i := 5) sc_repeated_state.nd rfl (.inl rfl))) (fun _ _ _ _ _ => pts_nil) (fun _ _ _ _ _ => (pe_cmp (pc_din (hu_of hr) (pv 5) (pv 1))))) pa_nil)))
(pss_one (ps_ret pe_non)) pss_nil)
(pss_cons (ps_set (i := 2) sc_repeated_state.nd rfl (.inl rfl) (pe_c G_steps_of hr (pa_cons (pv 0) pa_nil)))
(pss_cons (ps_for PassesOwn.never rfl (pi_range1 (by rfl) T.m_range (pa_cons (pe_ix ix_tup (pv 0) pe_int (fun _ _ => rfl)) pa_nil)) (pg_name (i := 3) sc_repeated_state.nd rfl (.inr rfl))
(pss_cons (ps_set (i := 4) sc_repeated_state.nd rfl (.inr rfl) (pe_c G_distances_to hr (pa_cons (pv 2) (pa_cons (pv 3) pa_nil))))
(pss_one (ps_if (pt_val (pe_callB (cr_any rfl) (by rfl) T.m_any (by decide +kernel) (pa_cons (pe_lc (own := [("step", 6)]) rfl sc_repeated_state.nd (pi_list (pv 2)) (blkOk_by (own := [("step", 6)]) (N := ["family", "numbers", "steps", "state", "distances", "root", "step"]) (sc := defScope (top 37)) (by decide +kernel)) (fun _ _ _ _ _ => (pg_name (i := 6) sc_repeated_state.nd rfl (.inl rfl))) (fun _ _ _ _ _ => pts_nil) (fun _ _ _ _ _ => (pe_and (pe_cmpR op_eq (pe_ix (k_ixT (K := K) rfl) (pv 6) pe_int (fun _ _ => rfl)) (pv 3) (nomark _)) (pe_one (pe_cmp (pc_din (hu_of hr) (pe_ix (k_ixT (K := K) rfl) (pv 6) pe_int (fun _ _ => rfl)) (pv 4))))))) pa_nil)))
(pss_one (ps_ret (pv 3))) pss_nil))))
(pss_one (ps_ret pe_non)))))), ?_⟩
    have ok := hF.ok
    have c4 := ok.c4
    refine s_asgX (ex_finite (ev_var rfl) hF) fun v H1 e1 hv => ?_
    obtain ⟨d, g, rfl, hd, hN⟩ := hv
    have hF1 := hF.ex e1
    obtain ⟨b, hb, hev⟩ := ev_roots (K := K) (σ := [some (.ref f), some (.ref d), none, none, none, none, none]) (H := H1) (j := 5) (vs := [5]) (td := tVar 1) (ty := tVar 5) (tl := tOp (rIxT K) (tVar 0) (tC (.int 1))) (et_of (ev_f1 (ev_var rfl) hF1) hF1.h1) ok hd hN (fun _ _ => ev_var rfl) (fun _ _ => ev_var rfl)
    refine s_if (et_B hev) (fun hbt H2 e2 => ?_) (fun hbt H2 e2 => ?_)
    · exact s_ret ev_c fun H3 e3 => q1 H3 (e1.trans (e2.trans e3)) (hb.mp hbt)
    · have hnot : ¬ ∀ r, r ∈ F.roots → FinS F r := fun z => by
        rw [hb.mpr z] at hbt
        cases hbt
      have e12 := e1.trans e2
      refine s_asgX (ex_steps (ev_var rfl) (hF.ex e12)) fun v H3 e3 hv => ?_
      obtain ⟨sa, l, rfl, hl, hok⟩ := hv
      have e13 := e12.trans e3
      have h36 := hok.len
      refine s_forR1 (n := (F.cnt : Int)) (ea_cons (ev_f0 (ev_var rfl) (hF.ex e13)) ea_nil) (by omega) (fun i σ' H' => ∃ (y3 y4 : Option V), σ' = [some (.ref f), some (.ref d), some (.ref sa), y3, y4, none, none] ∧ Ex H H' ∧ StepsAt H' sa l ∧ ∀ s, s < i → ¬ Circ F s)
        (fun H4 e4 => ⟨none, none, rfl, e13.trans e4, hl.ex e4, fun s hs => absurd hs (Nat.not_lt_zero _)⟩) (fun i σ' H4 hi hW => ?_) (fun σ' H4 hW => ?_)
      · obtain ⟨y3, y4, rfl, eH, hl4, hno⟩ := hW
        refine s_asgX (ex_dist (goal := i) (ev_var rfl) (ev_var rfl) hl4 (hok.p4 ok)) fun v H5 e5 hv => ?_
        obtain ⟨d2, g2, rfl, hd2, hdist⟩ := hv
        have hl5 := hl4.ex e5
        have key : Ev (tCB (rAny K) (tCons (tLc (iList K (tVar 2)) (gName 6) tYes (tAndV (tOp rEq (tOp (rIxT K) (tVar 6) (tC (.int 0))) (tVar 3)) (tDIn (tOp (rIxT K) (tVar 6) (tC (.int 3))) (tVar 4))) [6]) tNil)) [some (.ref f), some (.ref d), some (.ref sa), some (.int (i : Int)), some (.ref d2), none, none] H5
            (.bl ((l.map fun q => decide (nV q.2.1 = nV i) && (g2 q.2.2.2.2).isSome).any id)) := by
          refine ev_anyN ?_
          have z := el_lcL' (K := K) (σ := [some (.ref f), some (.ref d), some (.ref sa), some (.int (i : Int)), some (.ref d2), none, none]) (H := H5) (tl := tVar 2) (te := tAndV (tOp rEq (tOp (rIxT K) (tVar 6) (tC (.int 0))) (tVar 3)) (tDIn (tOp (rIxT K) (tVar 6) (tC (.int 3))) (tVar 4))) (t := tYes) (j := 6) (vs := [6]) (a0 := sa) l (fun q => V.ref q.1) (fun _ => true) (fun q => V.bl (decide (nV q.2.1 = nV i) && (g2 q.2.2.2.2).isSome)) (ev_var rfl) hl5.h (by omega)
            (fun _ _ _ _ => et_yes) (fun q hq _ H6 e6 => ev_andV (ev_op (ev_ixT (i := 0) (ev_var rfl) ev_c (e6 _ _ (hl5.each q hq)) rfl) (ev_var rfl) (rv_eq rfl)) fun _ => ev_din (s := q.2.2.2.2) (ev_ixT (i := 3) (ev_var rfl) ev_c (e6 _ _ (hl5.each q hq)) rfl) (ev_var rfl) (hd2.exx e6))
          rw [filter_true] at z
          rw [List.map_map]
          exact z
        have hiff : ((l.map fun q => decide (nV q.2.1 = nV i) && (g2 q.2.2.2.2).isSome).any id) = true ↔ Circ F i := by
          rw [List.any_eq_true]
          constructor
          · rintro ⟨x, hx, hxt⟩
            obtain ⟨q, hq, rfl⟩ := List.mem_map.mp hx
            obtain ⟨h1, h2⟩ := Bool.and_eq_true_iff.mp hxt
            obtain ⟨ad, p, n, j, t⟩ := q
            have hp : p = i := by
              have : ((p : Nat) : Int) = (i : Int) := V.int.inj (of_decide_eq_true h1)
              omega
            subst hp
            exact ⟨t, ⟨n, j, (hok.mem p n j t).mp ⟨ad, hq⟩⟩, (hdist.lead hok t).mp h2⟩
          · rintro ⟨t, ⟨n, j, hs⟩, hlead⟩
            obtain ⟨ad, hq⟩ := (hok.mem i n j t).mpr hs
            exact ⟨_, List.mem_map_of_mem hq, Bool.and_eq_true_iff.mpr ⟨decide_eq_true rfl, (hdist.lead hok t).mpr hlead⟩⟩
        refine s_if (et_B key) (fun hbt H6 e6 => ?_) (fun hbf H6 e6 => ?_)
        · exact s_ret (ev_var rfl) fun H7 e7 => q2 H7 i (eH.trans (e5.trans (e6.trans e7))) hnot (hiff.mp hbt)
        · refine ⟨_, _, rfl, eH.trans (e5.trans e6), hl5.ex e6, fun s hs => ?_⟩
          by_cases e : s = i
          · subst e
            intro z
            rw [hiff.mpr z] at hbf
            cases hbf
          · exact hno s (by omega)
      · obtain ⟨y3, y4, rfl, eH, hl4, hno⟩ := hW
        rw [Int.toNat_natCast] at hno
        exfalso
        obtain ⟨s, hs⟩ := (circ_iff ok).mpr (Classical.byContradiction fun hn => hnot fun r hr => Classical.byContradiction fun z => hn ⟨r, hr, z⟩)
        exact hno s (hs.lt ok).1 hs
end
end S
end

section
set_option Elab.async false
set_option linter.all false
set_option autoImplicit false
set_option maxRecDepth 100000
set_option maxHeartbeats 4000000
namespace S
open PySem PySem.Spec PyProof.Rows L2 Evl
section
variable {P : Program} {w : World} {K : PySem.W.Frag} {mg : Str → Option Value} {base : Heap}
theorem el_cat {σ : L2.St} {H : Hp} {ta tb : TE} {xs ys : List V} (ha : EvL ta σ H xs) (hb : EvL tb σ H ys) (hz : xs.length + ys.length ≤ 100000) : EvL (tOp rCat ta tb) σ H (xs ++ ys) := fun H1 e Q q =>
  ha H1 e _ fun p H2 hp e2 h2 => hb H2 (e.trans e2) _ fun r H3 hr e3 h3 => ⟨p, r, xs, ys, rfl, rfl, e3 _ _ h2, h3, sz_of hz, fun u hu => q u _ (fresh_back (e2.trans e3) hu) ((e2.trans e3).trans (Ex.new hu)) upd_same⟩
theorem ex_way {σ : L2.St} {H : Hp} {ta tb tc : TE} {f p : Addr} {L : Lay} {F : Fam} {starts : List Nat} {goal : Nat} (ha : Ev ta σ H (.ref f)) (hb : Ev tb σ H (.ref p)) (hc : Ev tc σ H (nV goal)) (hF : FamAt H f L F) (hp : H p = some (.tup (starts.map nV)))
    (hcond : goal ∈ starts ∨ (∃ a ∈ starts, ∃ b, Edge F a b ∧ Lead F goal b)) :
    EX (tCall spWay [.int 0] E0 (tCons ta (tCons tb (tCons tc tNil)))) σ H (fun v H' => ∃ r way, v = .ref r ∧ WayAt H' r way ∧ (∃ a ∈ starts, Chain F a way goal) ∧ way.length ≤ 5) := fun H1 e Q q =>
  (ea_cons ha (ea_cons hb (ea_cons hc ea_nil))) H1 e _ fun H2 e2 => ⟨f, L, F, p, starts, goal, 0, rfl, hF.ex (e.trans e2), (e.trans e2) _ _ hp, hcond.imp (fun h => ⟨rfl, h⟩) id, fun r way H' e' h1 h2 _ h4 => q _ H' (e2.trans e') ⟨r, way, rfl, h1, h2, h4⟩⟩
theorem ex_wayK {σ : L2.St} {H : Hp} {ta tb tc : TE} {f : Addr} {L : Lay} {F : Fam} {starts : List Nat} {goal : Nat} (ha : Ev ta σ H (.ref f)) (hb : ET tb σ H (starts.map nV)) (hc : Ev tc σ H (nV goal)) (hF : FamAt H f L F)
    (hcond : ∃ a ∈ starts, ∃ b, Edge F a b ∧ Lead F goal b) :
    EX (tCallN 3 1 spWay (fun vs zs => vs ++ zs) E0 (tCons ta (tCons tb (tCons tc tNil))) (tCons (tC (.int 1)) tNil)) σ H (fun v H' => ∃ r way, v = .ref r ∧ WayAt H' r way ∧ (∃ a ∈ starts, Chain F a way goal) ∧ way ≠ [] ∧ way.length ≤ 5) := fun H1 e Q q =>
  ha H1 e _ fun H2 e2 => hb H2 (e.trans e2) _ fun p H3 e3 hp => hc H3 ((e.trans e2).trans e3) _ fun H4 e4 => ⟨rfl, rfl, f, L, F, p, starts, goal, 1, rfl, hF.ex (((e.trans e2).trans e3).trans e4), e4 _ _ hp, .inr hcond, fun r way H' e' h1 h2 h3 h4 => q _ H' (((e2.trans e3).trans e4).trans e') ⟨r, way, rfl, h1, h2, h3 (by decide), h4⟩⟩
theorem ex_leastW {σ : L2.St} {H : Hp} {ta : TE} {f : Addr} {L : Lay} {F : Fam} (ha : Ev ta σ H (.ref f)) (hF : FamAt H f L F) :
    EX (tCall spLeastW [] E0 (tCons ta tNil)) σ H (fun v H' => ∃ r us W, v = .ref r ∧ H' r = some (.tup us) ∧ WtsAt H' us F.cnt W ∧ FixW F W) :=
  ex_call (ea_cons ha ea_nil) fun H1 e Q q E => ⟨f, L, F, rfl, hF.ex e, fun r us W H' e' h1 h2 h3 => q _ H' e' ⟨r, us, W, rfl, h1, h2, h3⟩⟩
theorem ex_first {σ : L2.St} {H : Hp} {ta tb : TE} {f p : Addr} {L : Lay} {F : Fam} {us : List V} {W : WF} (ha : Ev ta σ H (.ref f)) (hb : Ev tb σ H (.ref p)) (hF : FamAt H f L F) (hp : H p = some (.tup us)) (hW : WtsAt H us F.cnt W) (hfix : FixW F W) :
    EX (tCall spFirst [] E0 (tCons ta (tCons tb tNil))) σ H (fun v H' => ∃ d g, v = .ref d ∧ DkAt H' d g 12 ∧ RootsOk F W g) :=
  ex_call (ea_cons ha (ea_cons hb ea_nil)) fun H1 e Q q E => ⟨f, L, F, p, us, W, rfl, hF.ex e, e _ _ hp, hW.ex e, hfix, fun d g H' e' h1 h2 => q _ H' e' ⟨d, g, rfl, h1, h2⟩⟩
theorem ex_tree {σ : L2.St} {H : Hp} {ta tb tc : TE} {f d : Addr} {L : Lay} {F : Fam} {g : Nat → Option V} {n s : Nat} {W : WF} {wt : Wt} (ha : Ev ta σ H (.ref f)) (hb : Ev tb σ H (.ref d)) (hc : Ev tc σ H (nV s)) (hF : FamAt H f L F) (hd : DkAt H d g n) (hg : RootsOk F W g) (hs : W s = some wt) (hw : wt.2 ≤ 1000) :
    EX (tCall spTree [] E0 (tCons ta (tCons tb (tCons tc tNil)))) σ H (fun v H' => ∃ p ns, v = .ref p ∧ H' p = some (.tup (ns.map nV)) ∧ Fo F [s] ns ∧ ns.length = wt.2) :=
  ex_call (ea_cons ha (ea_cons hb (ea_cons hc ea_nil))) fun H1 e Q q E => ⟨f, L, F, d, g, n, s, W, wt, rfl, hF.ex e, hd.exx e, hg, hs, hw, fun p ns H' e' h1 h2 h3 => q _ H' e' ⟨p, ns, rfl, h1, h2, h3⟩⟩
/-- a tuple that some evaluation gives -/
theorem et_ofX {σ : L2.St} {H : Hp} {te : TE} {P' : List Nat → Prop} (h : EX te σ H (fun v H' => ∃ p ns, v = .ref p ∧ H' p = some (.tup (ns.map nV)) ∧ P' ns)) {Q : VK} (k : ∀ p ns H1, Ex H H1 → H1 p = some (.tup (ns.map nV)) → P' ns → Q (.ref p) H1) : te σ H Q :=
  h H (Ex.refl H) Q fun v H1 e hv => by
    obtain ⟨p, ns, rfl, h1, h2⟩ := hv
    exact k p ns H1 e h1 h2
/-- t = t + a tree -/
theorem s_catX {σ : L2.St} {H : Hp} {te : TE} {D : Ends} {i j : Nat} {a : Addr} {us : List Nat} {P' : List Nat → Prop} (hi : σ[j]? = some (some (.ref a))) (ha : H a = some (.tup (us.map nV))) (h : EX te σ H (fun v H' => ∃ p ns, v = .ref p ∧ H' p = some (.tup (ns.map nV)) ∧ P' ns)) (hz : ∀ ns, P' ns → us.length + ns.length ≤ 100000)
    (k : ∀ r ns H1, Ex H H1 → H1 r = some (.tup ((us ++ ns).map nV)) → P' ns → D.nx (σ.set i (some (.ref r))) H1) : tAsg (tOp (rCatA K) (tVar j) te) (gName i) D σ H :=
  ⟨_, hi, h H (Ex.refl H) _ fun v H1 e hv => by
    obtain ⟨p, ns, rfl, h1, h2⟩ := hv
    have key : ET (tOp (rCatA K) (tC (.ref a)) (tC (.ref p))) σ H1 ((us ++ ns).map nV) := etu_is (et_cat (et_of ev_c (e _ _ ha)) (et_of ev_c h1) (by rw [List.length_map, List.length_map]; exact hz ns h2)) (List.map_append).symm
    exact key H1 (Ex.refl H1) (fun v H' => D.nx (σ.set i (some v)) H') fun r H2 e2 hr => k r ns H2 (e.trans e2) hr h2⟩
theorem s_parts {σ : L2.St} {H : Hp} {ta : TE} {D : Ends} {E : XK} {n : Int} (ha : Ev ta σ H (.int n)) (k : ∀ H', Ex H H' → n ≤ 100 → D.nx σ H') (e : ∀ H', Ex H H' → 100 < n → ePt K n E H') : tDrop (tCall (spParts K) [] E (tCons ta tNil)) D σ H :=
  (ea_cons ha ea_nil) H (Ex.refl H) (fun vs H1 => spParts K (vs ++ []) H1 (fun _ H' => D.nx σ H') E) fun H1 e1 => ⟨n, rfl, fun H2 e2 => ⟨fun hn => k H2 (e1.trans e2) hn, fun hn => e H2 (e1.trans e2) hn⟩⟩
/-! ### find_repetition -/
theorem sc_find_repetition : FnScope ["family", "state", "above", "between", "weights", "count", "number", "index", "slots", "slot", "roots", "product", "places", "head", "tail", "place"] ["family"] (defScope (top 38)) := ⟨rfl, rfl, rfl, by decide +kernel, rfl, by decide +kernel, by decide +kernel⟩
-- slots: 0 family, 1 state, 2 above, 3 between, 4 weights, 5 count, 6 number, 7 index, 8 slots, 9 slot, 10 roots, 11 product, 12 places, 13 head, 14 tail, 15 place

def spFindRep (K : PySem.W.Frag) : Sp := fun vs H Q E => ∃ (f : Addr) (L : Lay) (F : Fam), vs = [.ref f] ∧ FamAt H f L F ∧ (∀ H', Ex H H' → (∀ r, r ∈ F.roots → FinS F r) → Q .non H') ∧ ((¬ ∀ r, r ∈ F.roots → FinS F r) → (∀ (n : Int) H', Ex H H' → 100 < n → ePt K n E H') ∧
  ∀ H' rp tp r s pre1 pre2 t post2 post1, Ex H H' → r ∈ F.roots → Ctx F r s pre1 post1 → Ctx F s s pre2 post2 → Fo F [s] t → pre2 ≠ [] → (pre1 ++ pre2 ++ t ++ (post2 ++ post1)).length ≤ 900 → H' tp = some (.tup ((pre1 ++ pre2 ++ t ++ (post2 ++ post1)).map nV)) → H' rp = some (.tup [.ref tp, nV pre1.length, nV (pre1.length + pre2.length)]) → Q (.ref rp) H')
theorem ok_find_repetition (T : Txt K mg) (hP : PrgOk P) : Good P w K mg base (L2.CX P w) 6 "find_repetition" ["family"] (spFindRep K) := by
  have G_repeated_state : Good P w K mg base CX0 5 "repeated_state" ["family"] spRepeat := ok_repeated_state T
  have G_first_way : GoodK P w K mg base 5 "first_way" ["family", "starts", "goal", "least"] 3 "least" (.int 0) spWay := ok_first_way T
  have G_least_weights : Good P w K mg base CX0 5 "least_weights" ["family"] spLeastW := (ok_least_weights T).mono (by decide)
  have G_check_parts : Good P w K mg base (L2.CX P w) 5 "check_parts" ["count"] (spParts K) := (ok_check_parts T hP).mono (by decide)
  have G_first_roots : Good P w K mg base CX0 5 "first_roots" ["family", "weights"] spFirst := (ok_first_roots T).mono (by decide)
  have G_tree_from : Good P w K mg base CX0 5 "tree_from" ["family", "roots", "state"] spTree := (ok_tree_from T).mono (by decide)
  refine Good.ofX T (j := 25) (i := 38) rfl rfl sc_find_repetition (fun _ _ _ _ _ _ us hl => match us, hl with | [_], _ => rfl) (fun vs H Q E h => ?_) (fun cdv A outer s H vs Q E hr h => ?_)
  · obtain ⟨f, L, F, rfl, _⟩ := h
    rfl
  · obtain ⟨f, L, F, rfl, hF, q1, q23⟩ := h
    refine ⟨_, (pss_cons (ps_set (i := 1) sc_find_repetition.nd rfl (.inl rfl) (pe_c G_repeated_state hr (pa_cons (pv 0) pa_nil)))
(pss_cons (ps_if (pt_cmpR op_isN (pv 1) pe_non (nomark _))
(pss_one (ps_ret pe_non)) pss_nil)
(pss_cons (ps_set (i := 2) sc_find_repetition.nd rfl (.inl rfl) (pe_way G_first_way hr (pa_cons (pv 0) (pa_cons (pe_ix ix_tup (pv 0) pe_int (fun _ _ => rfl)) (pa_cons (pv 1) pa_nil)))))
(pss_cons (ps_set (i := 3) sc_find_repetition.nd rfl (.inl rfl) (pe_wayK G_first_way hr (pa_cons (pv 0) (pa_cons (pe_tup (pa_cons (pv 1) pa_nil)) (pa_cons (pv 1) pa_nil))) (pk_cons pe_int pk_nil)))
(pss_cons (ps_set (i := 4) sc_find_repetition.nd rfl (.inr rfl) (pe_c G_least_weights hr (pa_cons (pv 0) pa_nil)))
(pss_cons (ps_set (i := 5) sc_find_repetition.nd rfl (.inl rfl) (pe_ix ix_tup (pe_ix ix_tup (pv 4) (pv 1) (fun _ _ => rfl)) pe_int (fun _ _ => rfl)))
(pss_cons (ps_for (passes_of rfl) rfl (pi_tup (pe_op op_catA (pv 2) (pv 3))) (pg_tup (by rfl) (pgs_cons (pg_name (i := 6) sc_find_repetition.nd rfl (.inl rfl)) (pgs_cons (pg_name (i := 7) sc_find_repetition.nd rfl (.inl rfl)) pgs_nil)))
(pss_cons (ps_set (i := 8) sc_find_repetition.nd rfl (.inl rfl) (pe_ix ix_tup (pe_ix ix_tup (pe_ix ix_tup (pv 0) pe_int (fun _ _ => rfl)) (pv 6) (fun _ _ => rfl)) pe_int (fun _ _ => rfl)))
(pss_one (ps_aug (i := 5) sc_find_repetition.nd rfl (.inl rfl) (pe_op op_add pe_int (pe_callB (cr_sum rfl) (by rfl) T.m_sum (by decide +kernel) (pa_cons (pe_lc (own := [("slot", 9)]) rfl sc_find_repetition.nd (pi_tup (pe_op op_catA (pe_slice sl_tupA (pv 8) po_none (po_some (pv 7))) (pe_slice sl_tupA (pv 8) (po_some (pe_op op_add (pv 7) pe_int)) po_none))) (blkOk_by (own := [("slot", 9)]) (N := ["family", "state", "above", "between", "weights", "count", "number", "index", "slots", "slot", "roots", "product", "places", "head", "tail", "place"]) (sc := defScope (top 38)) (by decide +kernel)) (fun _ _ _ _ _ => (pg_name (i := 9) sc_find_repetition.nd rfl (.inl rfl))) (fun _ _ _ _ _ => pts_nil) (fun _ _ _ _ _ => (pe_ix (k_ixT (K := K) rfl) (pe_ix (k_ixT (K := K) rfl) (pv 4) (pv 9) (fun _ _ => rfl)) pe_int (fun _ _ => rfl)))) pa_nil))) ip_add))))
(pss_cons (ps_expr (pe_cX G_check_parts hr (passes_call (takes_of rfl rfl rfl rfl) (fun _ _ _ _ h => h)) (pa_cons (pv 5) pa_nil)))
(pss_cons (ps_set (i := 10) sc_find_repetition.nd rfl (.inl rfl) (pe_c G_first_roots hr (pa_cons (pv 0) (pa_cons (pv 4) pa_nil))))
(pss_cons (ps_set (i := 11) sc_find_repetition.nd rfl (.inl rfl) (pe_c G_tree_from hr (pa_cons (pv 0) (pa_cons (pv 10) (pa_cons (pv 1) pa_nil)))))
(pss_cons (ps_set (i := 12) sc_find_repetition.nd rfl (.inl rfl) (pe_lst (pa_cons pe_int pa_nil)))
(pss_cons (ps_for (passes_of rfl) rfl (pi_tup (pe_revT (pe_op op_catA (pv 2) (pv 3)))) (pg_tup (by rfl) (pgs_cons (pg_name (i := 6) sc_find_repetition.nd rfl (.inl rfl)) (pgs_cons (pg_name (i := 7) sc_find_repetition.nd rfl (.inl rfl)) pgs_nil)))
(pss_cons (ps_set (i := 8) sc_find_repetition.nd rfl (.inl rfl) (pe_ix ix_tup (pe_ix ix_tup (pe_ix ix_tup (pv 0) pe_int (fun _ _ => rfl)) (pv 6) (fun _ _ => rfl)) pe_int (fun _ _ => rfl)))
(pss_cons (ps_set (i := 13) sc_find_repetition.nd rfl (.inr rfl) (pe_tup (pa_cons (pv 6) pa_nil)))
(pss_cons (ps_for (passes_of rfl) rfl (pi_tup (pe_slice sl_tupA (pv 8) po_none (po_some (pv 7)))) (pg_name (i := 9) sc_find_repetition.nd rfl (.inl rfl))
(pss_one (ps_set (i := 13) sc_find_repetition.nd rfl (.inr rfl) (pe_op op_catA (pv 13) (pe_c G_tree_from hr (pa_cons (pv 0) (pa_cons (pv 10) (pa_cons (pv 9) pa_nil))))))))
(pss_cons (ps_set (i := 14) sc_find_repetition.nd rfl (.inl rfl) (pe_tup pa_nil))
(pss_cons (ps_for (passes_of rfl) rfl (pi_tup (pe_slice sl_tupA (pv 8) (po_some (pe_op op_add (pv 7) pe_int)) po_none)) (pg_name (i := 9) sc_find_repetition.nd rfl (.inl rfl))
(pss_one (ps_set (i := 14) sc_find_repetition.nd rfl (.inl rfl) (pe_op op_catA (pv 14) (pe_c G_tree_from hr (pa_cons (pv 0) (pa_cons (pv 10) (pa_cons (pv 9) pa_nil))))))))
(pss_cons (ps_set (i := 11) sc_find_repetition.nd rfl (.inl rfl) (pe_op op_catA (pe_op op_catA (pv 13) (pv 11)) (pv 14)))
(pss_one (ps_set (i := 12) sc_find_repetition.nd rfl (.inl rfl) (pe_op op_cat (pe_lc (own := [("place", 15)]) rfl sc_find_repetition.nd (pi_list (pv 12)) (blkOk_by (own := [("place", 15)]) (N := ["family", "state", "above", "between", "weights", "count", "number", "index", "slots", "slot", "roots", "product", "places", "head", "tail", "place"]) (sc := defScope (top 38)) (by decide +kernel)) (fun _ _ _ _ _ => (pg_name (i := 15) sc_find_repetition.nd rfl (.inl rfl))) (fun _ _ _ _ _ => pts_nil) (fun _ _ _ _ _ => (pe_op op_add (pv 15) (pe_callB (k_len (K := K) rfl) (by rfl) T.m_len PySem.boot_len (pa_cons (pv 13) pa_nil))))) (pe_lst (pa_cons pe_int pa_nil))))))))))))
(pss_one (ps_ret (pe_tup (pa_cons (pv 11) (pa_cons (pe_ix ix_list (pv 12) (pe_callB call_len_seq (by rfl) T.m_len PySem.boot_len (pa_cons (pv 3) pa_nil)) (fun _ _ => rfl)) (pa_cons (pe_ix ix_list (pv 12) pe_int (fun _ _ => rfl)) pa_nil)))))))))))))))))), ?_⟩
    have ok := hF.ok
    have c4 := ok.c4
    refine s_asgX (P := fun v H' => ((∀ r, r ∈ F.roots → FinS F r) ∧ v = .non) ∨ ((¬ ∀ r, r ∈ F.roots → FinS F r) ∧ ∃ s, v = nV s ∧ Circ F s)) (ex_call (ea_cons (ev_var rfl) ea_nil) fun H1 e Q q E => ⟨f, L, F, rfl, hF.ex e, fun H' e' h => q _ H' e' (.inl ⟨h, rfl⟩), fun H' s e' h1 h2 => q _ H' e' (.inr ⟨h1, s, rfl, h2⟩)⟩) fun v H1 e1 hv => ?_
    rcases hv with ⟨hall, rfl⟩ | ⟨hnot, s, rfl, hcirc⟩
    · refine s_if (et_test (ev_isN (ev_var rfl))) (fun _ H2 e2 => ?_) (fun z => absurd rfl (of_decide_eq_false z))
      exact s_ret ev_c fun H3 e3 => q1 H3 (e1.trans (e2.trans e3)) hall
    · obtain ⟨q2, q3⟩ := q23 hnot
      have hcond : s ∈ F.roots ∨ (∃ a ∈ F.roots, ∃ b, Edge F a b ∧ Lead F s b) := by
        obtain ⟨r, hr', hl⟩ := reached_lead (hcirc.lt ok).2
        cases hl with
        | refl => exact .inl hr'
        | step e l => exact .inr ⟨_, hr', _, e, l⟩
      refine s_if (et_test (ev_isN (ev_var rfl))) (fun z => by have := of_decide_eq_true z; cases this) (fun _ H2 e2 => ?_)
      have e12 := e1.trans e2
      have hF2 := hF.ex e12
      refine s_asgX (ex_way (ev_var rfl) (ev_f1 (ev_var rfl) hF2) (ev_var rfl) hF2 hF2.h1 hcond) fun v H3 e3 hv => ?_
      obtain ⟨a1, w1, rfl, hw1, ⟨r, hroot, hch1⟩, hw1l⟩ := hv
      have hF3 := hF2.ex e3
      refine s_asgX (ex_wayK (starts := [s]) (ev_var rfl) (et_new (eu_tup (ea_cons (ev_var rfl) ea_nil) (by show 1 ≤ 100000; decide))) (ev_var rfl) hF3 ⟨s, List.mem_singleton.mpr rfl, hcirc⟩) fun v H4 e4 hv => ?_
      obtain ⟨a2, w2, rfl, hw2, ⟨s', hs', hch2⟩, hw2ne, hw2l⟩ := hv
      rw [List.mem_singleton] at hs'
      subst hs'
      have e14 := e12.trans (e3.trans e4)
      refine s_asgX (ex_leastW (ev_var rfl) (hF.ex e14)) fun v H5 e5 hv => ?_
      obtain ⟨wa, us, W, rfl, hwa, hW, hfix⟩ := hv
      obtain ⟨wt, hwt⟩ := hfix.filled hcirc.filled
      obtain ⟨uv, huv, huw⟩ := hW.get (hcirc.lt ok).1
      rw [hwt] at huw
      obtain ⟨ua, rfl, hua⟩ := huw
      have e15 := e14.trans e5
      obtain ⟨st, st0, st1, st2, hst⟩ := hch1.seq2 hch2
      obtain ⟨ls1, rfl, hl1, hl1e⟩ := (hw1.ex (e4.trans e5))
      obtain ⟨ls2, rfl, hl2, hl2e⟩ := (hw2.ex e5)
      have hWs : ∀ t, Filled F t → ∃ q, W t = some q ∧ q.2 ≤ 40 := fun t ht => by
        obtain ⟨q, hq⟩ := hfix.filled ht
        exact ⟨q, hq, (hfix.small t q hq).2⟩
      refine s_asg (v := nV wt.2) (ev_ixT (i := 1) (ev_ixT (ev_var rfl) (ev_var rfl) hwa huv) ev_c hua rfl) fun H6 e6 => ?_
      have e16 := e15.trans e6
      have hcat : ∀ {σ' : L2.St} {H' : Hp}, Ex H5 H' → σ'[2]? = some (some (.ref a1)) → σ'[3]? = some (some (.ref a2)) → ET (tOp (rCatA K) (tVar 2) (tVar 3)) σ' H' ((ls1 ++ ls2).map fun q => V.ref q.1) := fun e i j =>
        etu_is (et_cat (et_of (ev_var i) (e _ _ hl1)) (et_of (ev_var j) (e _ _ hl2)) (by rw [List.length_map, List.length_map]; rw [List.length_map] at hw1l hw2l; omega)) (List.map_append).symm
      have hle : ∀ q ∈ ls1 ++ ls2, H5 q.1 = some (.tup [nV q.2.1, nV q.2.2]) := fun q hq => (List.mem_append.mp hq).elim (hl1e q) (hl2e q)
      have hlst : ∀ (j : Nat) (q : Addr × (Nat × Nat)), (ls1 ++ ls2)[j]? = some q → IsStep F (st j) q.2.1 q.2.2 (st (j + 1)) := fun j q hq => hst j q.2.1 q.2.2 (by
        rw [← List.map_append]
        exact get_map (c := fun q : Addr × (Nat × Nat) => q.2) hq)
      have hcutr : ∀ {σ' : L2.St} {H' : Hp} {x : Var} {sa : Addr} {i : Nat}, H' sa = some (.tup (x.slots.map nV)) → σ'[8]? = some (some (.ref sa)) → σ'[7]? = some (some (nV i)) → ET (tSl (rSlA K) (tVar 8) (tPart (tOp (rI0 fun i j => .int (i + j)) (tVar 7) (tC (.int 1)))) tNoPart) σ' H' ((x.slots.drop (i + 1)).map nV) := fun {σ' H' x sa i} h a b => by
        refine etu_is (et_slice (et_of (ev_var a) h) (ep_some (n := i + 1) (ev_is (ev_op (ev_var b) ev_c rv_I0) ?_)) ep_none) (cut_from x.slots (i + 1))
        show V.int _ = V.int _
        rw [Int.natCast_succ]
      have hcutl : ∀ {σ' : L2.St} {H' : Hp} {x : Var} {sa : Addr} {i : Nat}, H' sa = some (.tup (x.slots.map nV)) → σ'[8]? = some (some (.ref sa)) → σ'[7]? = some (some (nV i)) → ET (tSl (rSlA K) (tVar 8) tNoPart (tPart (tVar 7))) σ' H' ((x.slots.take i).map nV) := fun {σ' H' x sa i} h a b =>
        etu_is (et_slice (et_of (ev_var a) h) ep_none (ep_some (n := i) (ev_var b))) (cut_to x.slots i)
      refine s_forE (hcat e6 rfl rfl) fun ad H7 e7 had => ⟨fun i σ' H' => ∃ (n : Int) (y6 y7 y8 y9 : Option V), σ' = [some (.ref f), some (nV s'), some (.ref a1), some (.ref a2), some (.ref wa), some (.int n), y6, y7, y8, y9, none, none, none, none, none, none] ∧ Ex H5 H' ∧ H' ad = some (.tup ((ls1 ++ ls2).map fun q => V.ref q.1)), ⟨_, none, none, none, none, rfl, e6.trans e7, had⟩, fun i σ' H' _ hW => SqT.of (by obtain ⟨_, _, _, _, _, _, _, z⟩ := hW; exact z), fun k xv σ' H8 hx hW8 => ?_, fun σ' H8 hW8 => ?_⟩
      · obtain ⟨n, y6, y7, y8, y9, rfl, e8, had8⟩ := hW8
        obtain ⟨q, hq, rfl⟩ := map_get hx
        obtain ⟨x, hx1, _, hx3, _, hx5⟩ := (hlst k q hq).var
        have hF8 := (hF.ex e15).ex e8
        refine ⟨q.1, _, rfl, SqT.of (e8 _ _ (hle q (get_mem hq))), rfl, _, _, rfl, _, _, rfl, rfl, ?_⟩
        have hv8 := hF8.h3 _ x hx1
        refine s_asg (ev_v1 (ev_ixT (ev_f2 (ev_var rfl) hF8) (ev_var rfl) hF8.h2 (FamAt.at F L (get_lt hx1))) hv8) fun H9 e9 => ?_
        have hs9 := e9 _ _ hv8.hs
        have eW := (e8.trans e9)
        refine s_aug (a := n) (b := 1 + ((x.slots.take q.2.2 ++ x.slots.drop (q.2.2 + 1)).map fun t => match W t with
          | some c => (c.2 : Int)
          | none => 0).sum) rfl (ev_op ev_c (ev_sumN ?_) rv_I0) fun H10 e10 => ⟨_, _, _, _, _, rfl, e8.trans (e9.trans e10), e10 _ _ (e9 _ _ had8)⟩
        have z := el_lcT (K := K) (σ := [some (.ref f), some (nV s'), some (.ref a1), some (.ref a2), some (.ref wa), some (.int n), some (nV q.2.1), some (nV q.2.2), some (.ref (L.sa q.2.1)), y9, none, none, none, none, none, none]) (H := H9) (tl := tOp (rCatA K) (tSl (rSlA K) (tVar 8) tNoPart (tPart (tVar 7))) (tSl (rSlA K) (tVar 8) (tPart (tOp (rI0 fun i j => .int (i + j)) (tVar 7) (tC (.int 1)))) tNoPart)) (te := tOp (rIxT K) (tOp (rIxT K) (tVar 4) (tVar 9)) (tC (.int 1))) (t := tYes) (j := 9) (vs := [9])
          (x.slots.take q.2.2 ++ x.slots.drop (q.2.2 + 1)) nV (fun _ => true) (fun t => V.int (match W t with
          | some c => (c.2 : Int)
          | none => 0)) (etu_is (et_cat (hcutl hs9 rfl rfl) (hcutr hs9 rfl rfl) (by rw [List.length_map, List.length_map, List.length_take, List.length_drop]; have := ok.s3 x (get_mem hx1); omega)) (List.map_append).symm) (by rw [List.length_append, List.length_take, List.length_drop]; have := ok.s3 x (get_mem hx1); omega)
          (fun _ _ _ _ => et_yes) (fun t ht _ H11 e11 => ?_)
        · rw [filter_true] at z
          rw [List.map_map]
          exact z
        · have htx : t ∈ x.slots := (List.mem_append.mp ht).elim List.mem_of_mem_take List.mem_of_mem_drop
          obtain ⟨c, hc, _⟩ := hWs t (hx5 t htx)
          obtain ⟨uu, huu, huw⟩ := hW.get (ok.sl x (get_mem hx1) t htx)
          rw [hc] at huw
          obtain ⟨ub, rfl, hub⟩ := huw
          rw [hc]
          exact ev_ixT (i := 1) (ev_ixT (ev_var rfl) (ev_var rfl) ((eW.trans e11) _ _ hwa) huu) ev_c ((eW.trans e11) _ _ hub) rfl
      · obtain ⟨n, y6, y7, y8, y9, rfl, e8, had8⟩ := hW8
        refine s_parts (ev_var rfl) (fun H10 e10 hn => ?_) (fun H10 e10 hn => q2 n H10 (e15.trans (e8.trans e10)) hn)
        have e510 := e8.trans e10
        have hF10 := (hF.ex e15).ex e510
        refine s_asgX (ex_first (ev_var rfl) (ev_var rfl) hF10 (e510 _ _ hwa) (hW.ex e510) hfix) fun v H11 e11 hv => ?_
        obtain ⟨d, g, rfl, hd, hg⟩ := hv
        have hwt40 := (hfix.small s' wt hwt).2
        refine s_asgX (ex_tree (ev_var rfl) (ev_var rfl) (ev_var rfl) (hF10.ex e11) hd hg hwt (by omega)) fun v H12 e12' hv => ?_
        obtain ⟨pp, t, rfl, hpp, hfo, hlt⟩ := hv
        refine s_asgL (el_lst (ea_cons ev_c ea_nil) (by show 1 ≤ 100000; decide)) fun pa H13 _ e13' hpa => ?_
        have e513 := e510.trans (e11.trans (e12'.trans e13'))
        have hF13 := (hF.ex e15).ex e513
        have hd13 := hd.exx (e12'.trans e13')
        have hm : (ls1 ++ ls2).length ≤ 10 := by
          rw [List.length_map] at hw1l hw2l
          rw [List.length_append]
          omega
        have hb1 : 1 ≤ ls2.length := by
          cases ls2 with
          | nil => exact absurd rfl hw2ne
          | cons a r => rw [List.length_cons]; omega
        rw [List.length_map] at st1
        rw [List.length_map, List.length_map, ← List.length_append] at st2
        have hlt2 : ls1.length + ls2.length = (ls1 ++ ls2).length := (List.length_append).symm
        generalize hmm : (ls1 ++ ls2).length = m at *
        refine s_forE (etu_is (et_rev (hcat e513 rfl rfl)) (List.map_reverse).symm) fun ad2 H14 e14' had2 => ⟨fun k σ' H' => ∃ (pp pa : Addr) (pre post pl : List Nat) (y6 y7 y8 y9 y13 y14 : Option V), σ' = [some (.ref f), some (nV s'), some (.ref a1), some (.ref a2), some (.ref wa), some (.int n), y6, y7, y8, y9, some (.ref d), some (.ref pp), some (.ref pa), y13, y14, none] ∧ Ex H13 H' ∧ H' ad2 = some (.tup ((ls1 ++ ls2).reverse.map fun q => V.ref q.1)) ∧
          H' pp = some (.tup ((pre ++ t ++ post).map nV)) ∧ H' pa = some (.lst (pl.map nV)) ∧ pl.length = k + 1 ∧ pl[0]? = some pre.length ∧ (pre ++ t ++ post).length ≤ 40 + 81 * k ∧ Ctx F (st (m - k)) s' pre post ∧ (0 < k → pre ≠ []) ∧
          (ls2.length ≤ k → ∃ pre1 pre2 post1 post2, pre = pre1 ++ pre2 ∧ post = post2 ++ post1 ∧ Ctx F s' s' pre2 post2 ∧ pre2 ≠ [] ∧ Ctx F (st (m - k)) s' pre1 post1 ∧ pl[ls2.length]? = some pre1.length),
          ⟨pp, pa, [], [], [0], _, _, _, _, _, _, rfl, e14', had2, by rw [List.nil_append, List.append_nil]; exact e14' _ _ (e13' _ _ hpp), e14' _ _ hpa, rfl, rfl, by rw [List.nil_append, List.append_nil]; omega, by rw [Nat.sub_zero, st2]; exact .nil, fun z => absurd z (Nat.lt_irrefl _), fun z => by omega⟩, fun i σ' H' _ hW => SqT.of (by obtain ⟨_, _, _, _, _, _, _, _, _, _, _, _, _, z, _⟩ := hW; exact z), fun k xv σ' H15 hx hW15 => ?_, fun σ' H15 hW15 => ?_⟩
        · obtain ⟨pp, pa, pre, post, pl, y6, y7, y8, y9, y13, y14, rfl, e15', had15, hpp15, hpa15, hpl, hpl0, hlen, hctx, hpre, hsplit⟩ := hW15
          obtain ⟨q, hq, rfl⟩ := map_get hx
          have hkm : k < m := by
            have := get_lt hq
            rw [List.length_reverse, hmm] at this
            exact this
          have hqi : (ls1 ++ ls2)[m - 1 - k]? = some q := by
            rw [List.getElem?_reverse (by rw [hmm]; exact hkm), hmm] at hq
            exact hq
          obtain ⟨x, hx1, hx2, hx3, hx4, hx5⟩ := (hlst (m - 1 - k) q hqi).var
          rw [show m - 1 - k + 1 = m - k by omega] at hx3
          have hx2' : x.plug = st (m - (k + 1)) := by rw [hx2, show m - 1 - k = m - (k + 1) by omega]
          have e1315 := e513.trans e15'
          have hsl3 := ok.s3 x (get_mem hx1)
          have hil := get_lt hx3
          have hF15 := (hF.ex e15).ex e1315
          have hd15 := hd13.exx e15'
          refine ⟨q.1, _, rfl, SqT.of (e1315 _ _ (hle q (get_mem hqi))), rfl, _, _, rfl, _, _, rfl, rfl, ?_⟩
          have hv15 := hF15.h3 _ x hx1
          refine s_asg (ev_v1 (ev_ixT (ev_f2 (ev_var rfl) hF15) (ev_var rfl) hF15.h2 (FamAt.at F L (get_lt hx1))) hv15) fun H16 e16' => ?_
          refine s_asgT (et_new (eu_tup (ea_cons (ev_var rfl) ea_nil) (by show 1 ≤ 100000; decide))) fun h0 H17 e17 hh0 => ?_
          have e1517 := e16'.trans e17
          have hs17 := e1517 _ _ hv15.hs
          refine s_forE (hcutl hs17 rfl rfl) fun ad3 H18 e18 had3 => ⟨fun j σ' H' => ∃ (hp : Addr) (u : List Nat) (y9 : Option V), σ' = [some (.ref f), some (nV s'), some (.ref a1), some (.ref a2), some (.ref wa), some (.int n), some (nV q.2.1), some (nV q.2.2), some (.ref (L.sa q.2.1)), y9, some (.ref d), some (.ref pp), some (.ref pa), some (.ref hp), y14, none] ∧ Ex H17 H' ∧ H' ad3 = some (.tup ((x.slots.take q.2.2).map nV)) ∧
            H' hp = some (.tup ((q.2.1 :: u).map nV)) ∧ Fo F ((x.slots.take q.2.2).take j) u ∧ u.length ≤ 40 * j, ⟨h0, [], _, rfl, e18, had3, e18 _ _ hh0, .nil, Nat.zero_le _⟩, fun i σ' H' _ hW => SqT.of (by obtain ⟨_, _, _, _, _, z, _⟩ := hW; exact z), fun j tv σ' H19 hx hW19 => ?_, fun σ' H19 hW19 => ?_⟩
          · obtain ⟨hp, u, y9, rfl, e19, had19, hhp, hfu, hul⟩ := hW19
            obtain ⟨tt, htt, rfl⟩ := map_get hx
            have htx : tt ∈ x.slots := List.mem_of_mem_take (get_mem htt)
            obtain ⟨c, hc, hc40⟩ := hWs tt (hx5 tt htx)
            have eA := e1517.trans e19
            refine s_catX (P' := fun ns => Fo F [tt] ns ∧ ns.length = c.2) rfl hhp (ex_tree (ev_var rfl) (ev_var rfl) (ev_var rfl) (hF15.ex eA) (hd15.exx eA) hg hc (by omega)) (fun ns h => by
              have := get_lt htt
              rw [List.length_take] at this
              rw [List.length_cons]
              omega) fun r ns H20 e20 hr20 hns => ⟨r, u ++ ns, _, rfl, e19.trans e20, e20 _ _ had19, hr20, ?_, by rw [List.length_append]; omega⟩
            rw [List.take_add_one, htt]
            exact hfu.app hns.1
          · obtain ⟨hp, u, y9, rfl, e19, had19, hhp, hfu, hul⟩ := hW19
            rw [List.length_map, List.length_take, Nat.min_eq_left (by omega)] at hfu hul
            rw [List.take_of_length_le (by rw [List.length_take]; omega)] at hfu
            refine s_asgT (et_new (eu_tup ea_nil (by decide))) fun h1 H20 e20 hh1 => ?_
            have e1720 := e19.trans e20
            refine s_forE (hcutr (e1720 _ _ hs17) rfl rfl) fun ad4 H21 e21 had4 => ⟨fun j σ' H' => ∃ (tp : Addr) (v : List Nat) (y9 : Option V), σ' = [some (.ref f), some (nV s'), some (.ref a1), some (.ref a2), some (.ref wa), some (.int n), some (nV q.2.1), some (nV q.2.2), some (.ref (L.sa q.2.1)), y9, some (.ref d), some (.ref pp), some (.ref pa), some (.ref hp), some (.ref tp), none] ∧ Ex H20 H' ∧ H' ad4 = some (.tup ((x.slots.drop (q.2.2 + 1)).map nV)) ∧
              H' tp = some (.tup (v.map nV)) ∧ Fo F ((x.slots.drop (q.2.2 + 1)).take j) v ∧ v.length ≤ 40 * j, ⟨h1, [], _, rfl, e21, had4, e21 _ _ hh1, .nil, Nat.zero_le _⟩, fun i σ' H' _ hW => SqT.of (by obtain ⟨_, _, _, _, _, z, _⟩ := hW; exact z), fun j tv σ' H22 hx hW22 => ?_, fun σ' H22 hW22 => ?_⟩
            · obtain ⟨tp, v, y9, rfl, e22, had22, htp, hfv, hvl⟩ := hW22
              obtain ⟨tt, htt, rfl⟩ := map_get hx
              have htx : tt ∈ x.slots := List.mem_of_mem_drop (get_mem htt)
              obtain ⟨c, hc, hc40⟩ := hWs tt (hx5 tt htx)
              have eA := e1517.trans (e1720.trans e22)
              refine s_catX (P' := fun ns => Fo F [tt] ns ∧ ns.length = c.2) rfl htp (ex_tree (ev_var rfl) (ev_var rfl) (ev_var rfl) (hF15.ex eA) (hd15.exx eA) hg hc (by omega)) (fun ns h => by
                have := get_lt htt
                rw [List.length_drop] at this
                omega) fun r ns H23 e23 hr23 hns => ⟨r, v ++ ns, _, rfl, e22.trans e23, e23 _ _ had22, hr23, ?_, by rw [List.length_append]; omega⟩
              rw [List.take_add_one, htt]
              exact hfv.app hns.1
            · obtain ⟨tp, v, y9, rfl, e22, had22, htp, hfv, hvl⟩ := hW22
              rw [List.length_map, List.length_drop] at hfv hvl
              rw [List.take_of_length_le (by rw [List.length_drop]; omega)] at hfv
              have e1522 := e1517.trans (e1720.trans e22)
              have hplen : (pre ++ t ++ post).length ≤ 1000 := by omega
              have huv : u.length + v.length ≤ 80 := by omega
              have hhp22 := e22 _ _ (e20 _ _ hhp)
              refine s_asgT (etu_is (et_cat (et_cat (et_of (ev_var rfl) hhp22) (et_of (ev_var rfl) (e1522 _ _ hpp15)) (by rw [List.length_map, List.length_map, List.length_cons]; omega)) (et_of (ev_var rfl) htp) (by rw [List.length_append, List.length_map, List.length_map, List.length_map, List.length_cons]; omega)) (ys := (((q.2.1 :: u) ++ pre) ++ t ++ (post ++ v)).map nV) (by rw [← List.map_append, ← List.map_append]; congr 1; simp [List.append_assoc])) fun pp2 H24 e24 hpp2 => ?_
              have e1524 := e1522.trans e24
              refine s_asgL (el_cat (el_lcL' (K := K) (j := 15) (vs := [15]) (a0 := pa) pl nV (fun _ => true) (fun z => nV (z + (q.2.1 :: u).length)) (ev_var rfl) (e1524 _ _ hpa15) (by omega) (fun _ _ _ _ => et_yes) (fun z hz _ H25 e25 => ev_is (ev_op (ev_var rfl) (ev_is (ev_lenT (et_of (ev_var rfl) ((e24.trans e25) _ _ hhp22))) (by rw [List.length_map] <;> rfl)) rv_I0) (by
                show V.int _ = V.int _
                rw [Int.natCast_add]))) (el_lst (ea_cons ev_c ea_nil) (by show 1 ≤ 100000; decide)) (by rw [filter_true, List.length_map]; show pl.length + 1 ≤ 100000; omega)) fun pa2 H25 npa2 e25 hpa2 => ?_
              rw [filter_true] at hpa2
              have hctx1 : Ctx F (st (m - (k + 1))) (st (m - k)) (q.2.1 :: u) v := by
                rw [← hx2']
                exact ctx_step hx1 hx4 hx3 hfu hfv
              refine ⟨pp2, pa2, (q.2.1 :: u) ++ pre, post ++ v, pl.map (· + (q.2.1 :: u).length) ++ [0], _, _, _, _, _, _, rfl, e15'.trans (e1524.trans e25), (e1524.trans e25) _ _ had15, e25 _ _ hpp2, ?_, ?_, ?_, ?_, ?_, fun _ z => by simp at z, fun hle2 => ?_⟩
              · rw [hpa2, List.map_append, List.map_map] <;> rfl
              · rw [List.length_append, List.length_map, hpl] <;> rfl
              · rw [places_step hpl hpl0, List.length_append, Nat.add_comm]
              · have h1 : (pre ++ t ++ post).length = pre.length + t.length + post.length := by rw [List.length_append, List.length_append]
                have h2 : ((q.2.1 :: u) ++ pre ++ t ++ (post ++ v)).length = u.length + 1 + pre.length + t.length + (post.length + v.length) := by
                  rw [List.length_append, List.length_append, List.length_append, List.length_append, List.length_cons]
                omega
              · exact hctx1.comp hctx
              · by_cases hb : ls2.length ≤ k
                · obtain ⟨pre1, pre2, post1, post2, rfl, rfl, hc2, hne2, hc1, hplb⟩ := hsplit hb
                  exact ⟨(q.2.1 :: u) ++ pre1, pre2, post1 ++ v, post2, by rw [List.append_assoc], by rw [List.append_assoc], hc2, hne2, hctx1.comp hc1, by rw [places_step hpl hplb, List.length_append, Nat.add_comm]⟩
                · have hbk : ls2.length = k + 1 := by omega
                  have hst' : st (m - (k + 1)) = s' := by rw [show m - (k + 1) = ls1.length by omega]; exact st1
                  refine ⟨[], (q.2.1 :: u) ++ pre, [], post ++ v, rfl, by rw [List.append_nil], ?_, (fun z => by simp at z), ?_, by rw [hbk, places_new hpl] <;> rfl⟩
                  · have := hctx1.comp hctx
                    rw [hst'] at this
                    exact this
                  · rw [hst']
                    exact .nil
        · obtain ⟨pp, pa, pre, post, pl, y6, y7, y8, y9, y13, y14, rfl, e15', had15, hpp15, hpa15, hpl, hpl0, hlen, hctx, hpre, hsplit⟩ := hW15
          rw [List.length_map, List.length_reverse, hmm] at hlen hctx hpre hsplit
          obtain ⟨pre1, pre2, post1, post2, rfl, rfl, hc2, hne2, hc1, hplb⟩ := hsplit (by omega)
          rw [Nat.sub_self, st0] at hc1
          have e1315 := e513.trans e15'
          refine s_retT (et_new (eu_tup (ea_cons (ev_var rfl) (ea_cons (ev_ixL (i := ls2.length) (ev_var rfl) (ev_is (ev_lenT (et_of (ev_var rfl) (e1315 _ _ hl2))) (by rw [List.length_map] <;> rfl)) hpa15 (get_map hplb)) (ea_cons (ev_ixL (i := 0) (ev_var rfl) ev_c hpa15 (get_map hpl0)) ea_nil))) (by show 3 ≤ 100000; decide))) fun rp H16 e16' hrp => ?_
          refine q3 H16 rp pp r s' pre1 pre2 t post2 post1 (e15.trans (e1315.trans e16')) hroot hc1 hc2 hfo hne2 (by omega) (e16' _ _ hpp15) ?_
          rw [hrp, List.length_append]
end
end S
end

section
set_option Elab.async false
set_option linter.all false
set_option autoImplicit false
set_option maxRecDepth 100000
set_option maxHeartbeats 4000000
namespace S
open PySem PySem.Spec PyProof.Rows L2 Evl
theorem cut_seg (a u b : List Nat) : cutV ((a ++ u ++ b).map nV) (some ((a.length : Nat) : Int)) (some ((a.length + u.length : Nat) : Int)) = u.map nV := by
  rw [cut_mid _ _ _ (by omega) (by rw [List.length_append, List.length_append]; omega), List.append_assoc, List.drop_left, show a.length + u.length - a.length = u.length by omega, List.take_left]
theorem cut_pre (a b : List Nat) : cutV ((a ++ b).map nV) none (some ((a.length : Nat) : Int)) = a.map nV := by
  rw [cut_to, List.take_left]
theorem cut_suf (a b : List Nat) : cutV ((a ++ b).map nV) (some ((a.length : Nat) : Int)) none = b.map nV := by
  rw [cut_from, List.drop_left]
/-- the number at the head of a tree of the state s -/
theorem Fo.head {F : Fam} {s : Nat} {a u b : List Nat} (h : Fo F [s] u) : ∃ n x, (a ++ u ++ b)[a.length]? = some n ∧ F.vs[n]? = some x ∧ x.plug = s := by
  obtain ⟨n, ns, x, rfl, hx, _, hp, _⟩ := h.inv'
  refine ⟨n, x, ?_, hx, hp⟩
  rw [List.append_assoc, List.getElem?_append_right (Nat.le_refl _), Nat.sub_self] <;> rfl
section
variable {P : Program} {w : World} {K : PySem.W.Frag} {mg : Str → Option Value} {base : Heap}
theorem ev_span {σ : L2.St} {H : Hp} {ta tb tc : TE} {f p : Addr} {L : Lay} {F : Fam} {s : Nat} {a u b l : List Nat} (ha : Ev ta σ H (.ref f)) (hb : Ev tb σ H (.ref p)) (hc : Ev tc σ H (nV a.length)) (hF : FamAt H f L F) (hp : H p = some (.tup (l.map nV))) (hl : l = a ++ u ++ b) (hz : l.length ≤ 1000) (hu : Fo F [s] u) :
    Ev (tCall spSpan [] E0 (tCons ta (tCons tb (tCons tc tNil)))) σ H (nV u.length) := fun H1 e Q q =>
  (ea_cons ha (ea_cons hb (ea_cons hc ea_nil))) H1 e _ fun H2 e2 => ⟨f, L, F, p, s, a, u, b, rfl, hF.ex (e.trans e2), by rw [← hl]; exact (e.trans e2) _ _ hp, by rw [← hl]; exact hz, hu, fun H' e' => q H' (e2.trans e')⟩
/-! ### repeat_part -/
theorem sc_repeat_part : FnScope ["family", "tree", "outer", "inner", "times", "end", "middle", "head", "tail"] ["family", "tree", "outer", "inner", "times"] (defScope (top 39)) := ⟨rfl, rfl, rfl, by decide +kernel, rfl, by decide +kernel, by decide +kernel⟩
-- slots: 0 family, 1 tree, 2 outer, 3 inner, 4 times, 5 end, 6 middle, 7 head, 8 tail

structure RepAt (F : Fam) (s : Nat) (pre1 pre2 t post2 post1 : List Nat) : Prop where
  c2 : Ctx F s s pre2 post2
  fo : Fo F [s] t
  ne : pre2 ≠ []
  len : (pre1 ++ pre2 ++ t ++ (post2 ++ post1)).length ≤ 900
def repSize (pre1 pre2 t post2 post1 : List Nat) (k : Nat) : Int := ((pre1 ++ pre2 ++ t ++ (post2 ++ post1)).length : Int) + ((k : Int) - 1) * ((pre2.length : Int) + (post2.length : Int))
def spRep (K : PySem.W.Frag) : Sp := fun vs H Q E => ∃ (f : Addr) (L : Lay) (F : Fam) (p : Addr) (s : Nat) (pre1 pre2 t post2 post1 : List Nat) (k : Nat), vs = [.ref f, .ref p, nV pre1.length, nV (pre1.length + pre2.length), nV k] ∧ FamAt H f L F ∧ H p = some (.tup ((pre1 ++ pre2 ++ t ++ (post2 ++ post1)).map nV)) ∧
  RepAt F s pre1 pre2 t post2 post1 ∧ k ≤ 20 ∧ (100 < repSize pre1 pre2 t post2 post1 k → ∀ H', Ex H H' → ePt K (repSize pre1 pre2 t post2 post1 k) E H') ∧
  (repSize pre1 pre2 t post2 post1 k ≤ 100 → ∀ r H', Ex H H' → H' r = some (.tup ((pre1 ++ rep k pre2 ++ t ++ rep k post2 ++ post1).map nV)) → Q (.ref r) H')
theorem ok_repeat_part (T : Txt K mg) (hP : PrgOk P) : Good P w K mg base (L2.CX P w) 2 "repeat_part" ["family", "tree", "outer", "inner", "times"] (spRep K) := by
  have G_span_of : Good P w K mg base CX0 1 "span_of" ["family", "tree", "number"] spSpan := ok_span_of T
  have G_check_parts : Good P w K mg base (L2.CX P w) 1 "check_parts" ["count"] (spParts K) := ok_check_parts T hP
  refine Good.ofX T (j := 26) (i := 39) rfl rfl sc_repeat_part (fun _ _ _ _ _ _ us hl => match us, hl with | [_, _, _, _, _], _ => rfl) (fun vs H Q E h => ?_) (fun cdv A outer s0 H vs Q E hr h => ?_)
  · obtain ⟨f, L, F, p, s, pre1, pre2, t, post2, post1, k, rfl, _⟩ := h
    rfl
  · obtain ⟨f, L, F, p, s, pre1, pre2, t, post2, post1, k, rfl, hF, hp, hrep, hk, q1, q2⟩ := h
    refine ⟨_, (pss_cons (ps_set (i := 5) sc_repeat_part.nd rfl (.inl rfl) (pe_op op_add (pv 2) (pe_c G_span_of hr (pa_cons (pv 0) (pa_cons (pv 1) (pa_cons (pv 2) pa_nil))))))
(pss_cons (ps_set (i := 6) sc_repeat_part.nd rfl (.inl rfl) (pe_op op_add (pv 3) (pe_c G_span_of hr (pa_cons (pv 0) (pa_cons (pv 1) (pa_cons (pv 3) pa_nil))))))
(pss_cons (ps_if (PW.pt (pw_or (pt_cmpR op_le (pv 3) (pv 2) (nomark _)) (pw_or1 (pt_cmpR op_ge (pv 3) (pv 5) (nomark _)))))
(pss_one (ps_never)) pss_nil)
(pss_cons (ps_if (pt_cmpR op_ne (pe_ix ix_tup (pe_ix ix_tup (pe_ix ix_tup (pv 0) pe_int (fun _ _ => rfl)) (pe_ix ix_tup (pv 1) (pv 2) (fun _ _ => rfl)) (fun _ _ => rfl)) pe_int (fun _ _ => rfl)) (pe_ix ix_tup (pe_ix ix_tup (pe_ix ix_tup (pv 0) pe_int (fun _ _ => rfl)) (pe_ix ix_tup (pv 1) (pv 3) (fun _ _ => rfl)) (fun _ _ => rfl)) pe_int (fun _ _ => rfl)) (nomark _))
(pss_one (ps_never)) pss_nil)
(pss_cons (ps_set (i := 7) sc_repeat_part.nd rfl (.inl rfl) (pe_slice sl_tupA (pv 1) (po_some (pv 2)) (po_some (pv 3))))
(pss_cons (ps_set (i := 8) sc_repeat_part.nd rfl (.inl rfl) (pe_slice sl_tupA (pv 1) (po_some (pv 6)) (po_some (pv 5))))
(pss_cons (ps_expr (pe_cX G_check_parts hr (passes_call (takes_of rfl rfl rfl rfl) (fun _ _ _ _ h => h)) (pa_cons (pe_op op_add (pe_callB call_len_seq (by rfl) T.m_len PySem.boot_len (pa_cons (pv 1) pa_nil)) (pe_op op_mul (pe_op op_sub (pv 4) pe_int) (pe_op op_add (pe_callB call_len_seq (by rfl) T.m_len PySem.boot_len (pa_cons (pv 7) pa_nil)) (pe_callB call_len_seq (by rfl) T.m_len PySem.boot_len (pa_cons (pv 8) pa_nil))))) pa_nil)))
(pss_one (ps_ret (pe_op op_catA (pe_op op_catA (pe_op op_catA (pe_op op_catA (pe_slice sl_tupA (pv 1) po_none (po_some (pv 2))) (pe_op op_repA (pv 7) (pv 4))) (pe_slice sl_tupA (pv 1) (po_some (pv 3)) (po_some (pv 6)))) (pe_op op_repA (pv 8) (pv 4))) (pe_slice sl_tupA (pv 1) (po_some (pv 5)) po_none))))))))))), ?_⟩
    have ok := hF.ok
    have hu : Fo F [s] (pre2 ++ t ++ post2) := hrep.c2 t hrep.fo
    have hlen := hrep.len
    generalize hprod : pre1 ++ pre2 ++ t ++ (post2 ++ post1) = prod at *
    have hp1 : prod = pre1 ++ (pre2 ++ t ++ post2) ++ post1 := by rw [← hprod]; simp [List.append_assoc]
    have hp2 : prod = (pre1 ++ pre2) ++ t ++ (post2 ++ post1) := hprod.symm
    have hlp : prod.length = pre1.length + pre2.length + t.length + post2.length + post1.length := by
      rw [← hprod]
      simp only [List.length_append]
      omega
    have hne : 1 ≤ pre2.length := by
      cases e : pre2 with
      | nil => exact absurd e hrep.ne
      | cons a r => rw [List.length_cons]; omega
    have hfo := hrep.fo.pos
    refine s_asg (ev_op (ev_var rfl) (ev_span (a := pre1) (u := pre2 ++ t ++ post2) (b := post1) (ev_var rfl) (ev_var rfl) (ev_var rfl) hF hp hp1 (by omega) hu) rv_I0) fun H1 e1 => ?_
    refine s_asg (ev_op (ev_var rfl) (ev_span (a := pre1 ++ pre2) (u := t) (b := post2 ++ post1) (ev_var rfl) (ev_var rfl) (ev_is (ev_var rfl) (by rw [List.length_append])) (hF.ex e1) (e1 _ _ hp) hp2 (by omega) hrep.fo) rv_I0) fun H2 e2 => ?_
    have e12 := e1.trans e2
    have hF2 := hF.ex e12
    have hp2' := e12 _ _ hp
    have i1 : (pre1.length : Int) + ((pre2 ++ t ++ post2).length : Int) = ((pre1.length + (pre2.length + t.length + post2.length) : Nat) : Int) := by
      rw [List.length_append, List.length_append]
      omega
    have i2 : ((pre1.length + pre2.length : Nat) : Int) + (t.length : Int) = ((pre1.length + pre2.length + t.length : Nat) : Int) := by omega
    rw [i1, i2]
    refine s_if (b := decide (((pre1.length + pre2.length : Nat) : Int) ≤ (pre1.length : Int)) || decide (((pre1.length + (pre2.length + t.length + post2.length) : Nat) : Int) ≤ ((pre1.length + pre2.length : Nat) : Int))) (et_or (et_test (ev_op (ev_var rfl) (ev_var rfl) rv_I0)) fun _ => et_test (ev_op (ev_var rfl) (ev_var rfl) rv_I0)) (fun z => ?_) (fun _ H3 e3 => ?_)
    · rw [decide_eq_false (by omega), decide_eq_false (by omega)] at z
      cases z
    obtain ⟨n1, x1, hn1, hx1, hpl1⟩ := hu.head (a := pre1) (b := post1)
    obtain ⟨n2, x2, hn2, hx2, hpl2⟩ := hrep.fo.head (a := pre1 ++ pre2) (b := post2 ++ post1)
    rw [← hp1] at hn1
    rw [← hp2, List.length_append] at hn2
    have hF3 := hF2.ex e3
    have hp3 := e3 _ _ hp2'
    refine s_if (et_test (ev_op (ev_v0 (ev_ixT (ev_f2 (ev_var rfl) hF3) (ev_ixT (ev_var rfl) (ev_var rfl) hp3 (get_map hn1)) hF3.h2 (FamAt.at F L (get_lt hx1))) (hF3.h3 _ _ hx1)) (ev_v0 (ev_ixT (ev_f2 (ev_var rfl) hF3) (ev_ixT (ev_var rfl) (ev_var rfl) hp3 (get_map hn2)) hF3.h2 (FamAt.at F L (get_lt hx2))) (hF3.h3 _ _ hx2)) (rv_ne rfl))) (fun z => ?_) (fun _ H4 e4 => ?_)
    · rw [hpl1, hpl2, decide_eq_true rfl] at z
      cases z
    have e14 := e12.trans (e3.trans e4)
    have hp4 := e14 _ _ hp
    have cutA : ∀ {tl th : TO} {te : TE} {σ : L2.St} {H' : Hp} (a u b : List Nat) (lo hi : Nat), prod = a ++ u ++ b → lo = a.length → hi = a.length + u.length → ET te σ H' (prod.map nV) → EvP tl σ H' (some (lo : Int)) → EvP th σ H' (some (hi : Int)) → ET (tSl (rSlA K) te tl th) σ H' (u.map nV) := fun a u b lo hi h h1 h2 ht hl hh => by
      subst h1 h2
      refine etu_is (et_slice ht hl hh) ?_
      rw [h]
      exact cut_seg a u b
    refine s_asgT (cutA pre1 pre2 (t ++ (post2 ++ post1)) pre1.length (pre1.length + pre2.length) (by rw [← hprod]; simp [List.append_assoc]) rfl rfl (et_of (ev_var rfl) hp4) (ep_some (ev_var rfl)) (ep_some (ev_var rfl))) fun hd H5 e5 hhd => ?_
    refine s_asgT (cutA (pre1 ++ pre2 ++ t) post2 post1 (pre1.length + pre2.length + t.length) (pre1.length + (pre2.length + t.length + post2.length)) (by rw [← hprod]; simp [List.append_assoc]) (by rw [List.length_append, List.length_append]) (by rw [List.length_append, List.length_append]; omega) (et_of (ev_var rfl) (e5 _ _ hp4)) (ep_some (ev_var rfl)) (ep_some (ev_var rfl))) fun tl H6 e6 htl => ?_
    have e16 := e14.trans (e5.trans e6)
    have hp6 := e16 _ _ hp
    have hhd6 := e6 _ _ hhd
    have hsz : repSize pre1 pre2 t post2 post1 k = (prod.length : Int) + ((k : Int) - 1) * ((pre2.length : Int) + (post2.length : Int)) := by
      unfold repSize
      rw [hprod]
    refine s_parts (n := repSize pre1 pre2 t post2 post1 k) (ev_is (ev_op (ev_lenT (et_of (ev_var rfl) hp6)) (ev_op (ev_op (ev_var rfl) ev_c rv_I0) (ev_op (ev_lenT (et_of (ev_var rfl) hhd6)) (ev_lenT (et_of (ev_var rfl) htl)) rv_I0) (rv_I (.inl ⟨by omega, by omega⟩))) rv_I0) (by rw [hsz, List.length_map, List.length_map, List.length_map])) (fun H7 e7 hn => ?_) (fun H7 e7 hn => q1 hn H7 (e16.trans e7))
    have hp7 := e7 _ _ hp6
    have hrl2 : (rep k pre2).length ≤ 20 * 900 := by
      rw [rep_len]
      exact Nat.mul_le_mul hk (by omega)
    have hrl3 : (rep k post2).length ≤ 20 * 900 := by
      rw [rep_len]
      exact Nat.mul_le_mul hk (by omega)
    refine s_retT (etu_is (et_cat (et_cat (et_cat (et_cat (xs := pre1.map nV) (ys := (rep k pre2).map nV) (etu_is (et_slice (et_of (ev_var rfl) hp7) ep_none (ep_some (n := pre1.length) (ev_var rfl))) ?_) (etu_is (et_repT (et_of (ev_var rfl) (e7 _ _ hhd6)) (ev_var rfl) (by rw [List.length_map]; omega) (by omega)) (rep_map k pre2)) ?_)
      (ys := t.map nV) (cutA (pre1 ++ pre2) t (post2 ++ post1) (pre1.length + pre2.length) (pre1.length + pre2.length + t.length) hp2 (by rw [List.length_append]) (by rw [List.length_append]) (et_of (ev_var rfl) hp7) (ep_some (ev_var rfl)) (ep_some (ev_var rfl))) ?_)
      (ys := (rep k post2).map nV) (etu_is (et_repT (et_of (ev_var rfl) (e7 _ _ htl)) (ev_var rfl) (by rw [List.length_map]; omega) (by omega)) (rep_map k post2)) ?_)
      (ys := post1.map nV) (etu_is (et_slice (et_of (ev_var rfl) hp7) (ep_some (n := pre1.length + (pre2.length + t.length + post2.length)) (ev_var rfl)) ep_none) ?_) ?_) (ys := (pre1 ++ rep k pre2 ++ t ++ rep k post2 ++ post1).map nV) ?_) fun r H8 e8 hr8 => q2 hn r H8 (e16.trans (e7.trans e8)) hr8
    · rw [hp1, List.append_assoc]
      exact cut_pre pre1 _
    · rw [List.length_map, List.length_map]; omega
    · rw [List.length_append, List.length_map, List.length_map, List.length_map]; omega
    · rw [List.length_append, List.length_append, List.length_map, List.length_map, List.length_map, List.length_map]; omega
    · rw [hp1, show pre1.length + (pre2.length + t.length + post2.length) = (pre1 ++ (pre2 ++ t ++ post2)).length by simp only [List.length_append]]
      exact cut_suf _ _
    · rw [List.length_append, List.length_append, List.length_append, List.length_map, List.length_map, List.length_map, List.length_map, List.length_map]; omega
    · simp only [List.map_append]
end
end S
end

section
set_option Elab.async false
set_option linter.all false
set_option autoImplicit false
set_option maxRecDepth 100000
set_option maxHeartbeats 4000000
namespace S
open PySem PySem.Spec PyProof.Rows L2 Evl
/-! ### the table of sizes -/
def tg (T : List (List Nat)) (s p : Nat) : Nat := (T.getD s []).getD p 0
structure TabOk (F : Fam) (T : List (List Nat)) (M i : Nat) : Prop where
  len : T.length = F.cnt
  row : ∀ r ∈ T, r.length = M + 1
  up : ∀ s p, s < F.cnt → p ≤ i → tg T s p ≤ 2 ^ (20 * p)
  low : ∀ s p ns, s < F.cnt → p ≤ i → Fo F [s] ns → ns.length = p → 1 ≤ tg T s p
abbrev rowsV (T : List (List Nat)) : List (List V) := T.map fun r => r.map nV
theorem tg_get {T : List (List Nat)} {s p : Nat} {r : List Nat} {v : Nat} (h : T[s]? = some r) (k : r[p]? = some v) : tg T s p = v := by
  have e : T.getD s [] = r := by rw [List.getD_eq_getElem?_getD, h] <;> rfl
  unfold tg
  rw [e, List.getD_eq_getElem?_getD, k] <;> rfl
theorem tg_at {F : Fam} {T : List (List Nat)} {M s p : Nat} (hl : T.length = F.cnt) (hr : ∀ r ∈ T, r.length = M + 1) (hs : s < F.cnt) (hp : p ≤ M) : ∃ r, T[s]? = some r ∧ r[p]? = some (tg T s p) := by
  have hs' : s < T.length := by omega
  have h1 := List.getElem?_eq_getElem hs'
  have h2 : p < (T[s]).length := by rw [hr _ (List.getElem_mem hs')]; omega
  have h3 := List.getElem?_eq_getElem h2
  exact ⟨T[s], h1, by rw [h3, tg_get h1 h3]⟩
section
variable {P : Program} {w : World} {K : PySem.W.Frag} {mg : Str → Option Value} {base : Heap}
theorem ev_tab {σ : L2.St} {H : Hp} {td ts tp : TE} {d : Addr} {ps : List Addr} {T : List (List Nat)} {F : Fam} {M s p : Nat} (hd : Ev td σ H (.ref d)) (hs : Ev ts σ H (nV s)) (hp : Ev tp σ H (nV p)) (h : LsAt H d ps (rowsV T)) (hl : T.length = F.cnt) (hr : ∀ r ∈ T, r.length = M + 1) (h1 : s < F.cnt) (h2 : p ≤ M) :
    Ev (tOp (rIxL K) (tOp (rIxL K) td ts) tp) σ H (nV (tg T s p)) := by
  obtain ⟨r, h3, h4⟩ := tg_at hl hr h1 h2
  obtain ⟨q, h5, h6⟩ := h.at (get_map (c := fun r : List Nat => r.map nV) h3)
  exact ev_ixL (ev_ls hd hs h h5) hp h6 (get_map h4)
/-! ### ways_to_fill -/
theorem s_augX {σ : L2.St} {H : Hp} {te : TE} {D : Ends} {i : Nat} {f : Int → Int → Int} {a : Int} {P' : Int → Prop} (hx : σ[i]? = some (some (.int a))) (h : EX te σ H (fun v _ => ∃ b, v = .int b ∧ P' b)) (k : ∀ b H1, Ex H H1 → P' b → D.nx (σ.set i (some (.int (f a b)))) H1) : tAug i te (ipI f) D σ H := by
  refine ⟨_, hx, h H (Ex.refl H) _ fun v H1 e hv => ?_⟩
  obtain ⟨b, rfl, hb⟩ := hv
  exact ⟨a, b, rfl, rfl, k b H1 e hb⟩
theorem sc_ways_to_fill : FnScope ["sizes", "slots", "parts", "total", "first", "many"] ["sizes", "slots", "parts"] (defScope (top 13)) := ⟨rfl, rfl, rfl, by decide +kernel, rfl, by decide +kernel, by decide +kernel⟩
-- slots: 0 sizes, 1 slots, 2 parts, 3 total, 4 first, 5 many

def spWays (n : Nat) : Sp := fun vs H Q _ => ∃ (d sa : Addr) (ps : List Addr) (T : List (List Nat)) (F : Fam) (M parts : Nat) (slots : List Nat), vs = [.ref d, .ref sa, nV parts] ∧ LsAt H d ps (rowsV T) ∧ H sa = some (.tup (slots.map nV)) ∧ slots.length ≤ n ∧ slots.length ≤ 3 ∧ (∀ t ∈ slots, t < F.cnt) ∧ TabOk F T M parts ∧ parts ≤ M ∧ M ≤ 20 ∧
  ∀ (v : Nat) H', Ex H H' → v ≤ 2 ^ (20 * parts + 5 * slots.length) → (∀ ns, Fo F slots ns → ns.length = parts → 1 ≤ v) → Q (nV v) H'
theorem TabOk.mono {F : Fam} {T : List (List Nat)} {M i j : Nat} (h : TabOk F T M i) (hj : j ≤ i) : TabOk F T M j := ⟨h.len, h.row, fun s p a b => h.up s p a (by omega), fun s p ns a b => h.low s p ns a (by omega)⟩
theorem ex_ways {n : Nat} {σ : L2.St} {H : Hp} {ta tb tc : TE} {d : Addr} {ps : List Addr} {T : List (List Nat)} {F : Fam} {M parts : Nat} {slots : List Nat} (ha : Ev ta σ H (.ref d)) (hb : ET tb σ H (slots.map nV)) (hc : Ev tc σ H (nV parts)) (hls : LsAt H d ps (rowsV T)) (hn : slots.length ≤ n) (h3 : slots.length ≤ 3)
    (hlt : ∀ t ∈ slots, t < F.cnt) (hT : TabOk F T M parts) (hp : parts ≤ M) (hM : M ≤ 20) :
    EX (tCall (spWays n) [] E0 (tCons ta (tCons tb (tCons tc tNil)))) σ H (fun v H' => ∃ c : Nat, v = nV c ∧ c ≤ 2 ^ (20 * parts + 5 * slots.length) ∧ (∀ ns, Fo F slots ns → ns.length = parts → 1 ≤ c)) := fun H1 e Q q =>
  ha H1 e _ fun H2 e2 => hb H2 (e.trans e2) _ fun ra H3 e3 hra => hc H3 ((e.trans e2).trans e3) _ fun H4 e4 => ⟨d, ra, ps, T, F, M, parts, slots, rfl, hls.ex (((e.trans e2).trans e3).trans e4), e4 _ _ hra, hn, h3, hlt, hT, hp, hM, fun v H' e' h1 h2 => q _ H' (((e2.trans e3).trans e4).trans e') ⟨v, rfl, h1, h2⟩⟩
theorem natAbs_lt (n : Nat) {k : Nat} (h : n ≤ 2 ^ k) : ((n : Nat) : Int).natAbs < 2 ^ (k + 1) := by
  rw [Int.natAbs_natCast, Nat.pow_succ]
  have : 0 < 2 ^ k := Nat.two_pow_pos k
  omega
theorem ok_ways (T : Txt K mg) (n : Nat) : Good P w K mg base CX0 (n + 1) "ways_to_fill" ["sizes", "slots", "parts"] (spWays n) := by
  induction n with
  | zero =>
    have G_ways_to_fill : Good P w K mg base CX0 0 "ways_to_fill" ["sizes", "slots", "parts"] (fun _ _ _ _ => False) := by
      obtain ⟨⟨fd, F⟩, g⟩ := fun_of T 4 13 "ways_to_fill" [] rfl rfl
      exact ⟨⟨fd, ⟨fun _ _ _ _ z => z.elim, fun _ _ _ _ _ _ _ _ _ _ _ _ _ z => z.elim⟩, F.bindsN (fun _ _ _ _ _ _ us hl => match us, hl with | [_, _, _], _ => rfl)⟩, g, F.kp⟩
    refine Good.of T (j := 4) (i := 13) rfl rfl sc_ways_to_fill (fun _ _ _ _ _ _ us hl => match us, hl with | [_, _, _], _ => rfl) (fun vs H Q E h => ?_) (fun cdv A outer s0 H vs Q E hr h => ?_)
    · obtain ⟨d, sa, ps, T, F, M, parts, slots, rfl, _⟩ := h
      rfl
    · obtain ⟨d, sa, ps, Tb, F, M, parts, slots, rfl, hls, hsa, hn, h3, hlt, hT, hpM, hM, q⟩ := h
      refine ⟨_, (pss_cons (ps_if (pt_not (pt_tru (pv 1) (by intro _; rfl)))
(pss_one (ps_ret (pe_callTy call_int1 (by rfl) T.m_int (by decide +kernel) (pa_cons (pe_cmpR op_eq (pv 2) pe_int (nomark _)) pa_nil)))) pss_nil)
(pss_cons (ps_if (pt_cmpR op_eq (pe_callB call_len_seq (by rfl) T.m_len PySem.boot_len (pa_cons (pv 1) pa_nil)) pe_int (nomark _))
(pss_one (ps_ret (pe_ix ix_list (pe_ix ix_list (pv 0) (pe_ix ix_tup (pv 1) pe_int (fun _ _ => rfl)) (fun _ _ => rfl)) (pv 2) (fun _ _ => rfl)))) pss_nil)
(pss_cons (ps_set (i := 3) sc_ways_to_fill.nd rfl (.inl rfl) pe_int)
(pss_cons (ps_for PassesOwn.never rfl (pi_range2 (by rfl) T.m_range (pa_cons pe_int (pa_cons (pv 2) pa_nil))) (pg_name (i := 4) sc_ways_to_fill.nd rfl (.inl rfl))
(pss_cons (ps_set (i := 5) sc_ways_to_fill.nd rfl (.inl rfl) (pe_ix ix_list (pe_ix ix_list (pv 0) (pe_ix ix_tup (pv 1) pe_int (fun _ _ => rfl)) (fun _ _ => rfl)) (pv 4) (fun _ _ => rfl)))
(pss_one (ps_if (pt_cmpR op_gt (pv 5) pe_int (nomark _))
(pss_one (ps_aug (i := 3) sc_ways_to_fill.nd rfl (.inl rfl) (pe_op op_mulW (pv 5) (pe_c G_ways_to_fill hr (pa_cons (pv 0) (pa_cons (pe_slice sl_tupA (pv 1) (po_some pe_int) po_none) (pa_cons (pe_op op_sub (pv 2) (pv 4)) pa_nil))))) ip_add)) pss_nil))))
(pss_one (ps_ret (pv 3))))))), ?_⟩
      have : slots = [] := List.length_eq_zero_iff.mp (by omega)
      subst this
      refine s_if (et_not (et_tup (et_of (ev_var rfl) hsa))) (fun _ H1 e1 => ?_) (fun z => by cases z)
      refine s_ret (v := nV (if parts = 0 then 1 else 0)) (fun H2 e2 Q2 q2 => ?_) fun H2 e2 => q _ H2 (e1.trans e2) ?_ ?_
      · refine (ea_cons (ev_op (ev_var rfl) ev_c (rv_eq rfl)) ea_nil) H2 e2 _ fun H3 e3 => Or.inr ⟨_, rfl, ?_⟩
        have : (V.int (if decide (nV parts = V.int 0) = true then 1 else 0)) = nV (if parts = 0 then 1 else 0) := by
          by_cases h0 : parts = 0
          · subst h0
            rfl
          · rw [if_neg h0, if_neg (fun z => h0 (by
              have : ((parts : Nat) : Int) = 0 := V.int.inj (of_decide_eq_true z)
              omega))] <;> rfl
        rw [this]
        exact q2 H3 e3
      · have := Nat.two_pow_pos (20 * parts + 5 * ([] : List Nat).length)
        split <;> omega
      · intro ns hf hl
        rw [hf.nil_inv] at hl
        rw [if_pos (show parts = 0 from hl.symm)]
        exact Nat.le_refl _
  | succ n ih =>
    have G_ways_to_fill : Good P w K mg base CX0 (n + 1) "ways_to_fill" ["sizes", "slots", "parts"] (spWays n) := ih
    refine Good.of T (j := 4) (i := 13) rfl rfl sc_ways_to_fill (fun _ _ _ _ _ _ us hl => match us, hl with | [_, _, _], _ => rfl) (fun vs H Q E h => ?_) (fun cdv A outer s0 H vs Q E hr h => ?_)
    · obtain ⟨d, sa, ps, T, F, M, parts, slots, rfl, _⟩ := h
      rfl
    · obtain ⟨d, sa, ps, Tb, F, M, parts, slots, rfl, hls, hsa, hn, h3, hlt, hT, hpM, hM, q⟩ := h
      refine ⟨_, (pss_cons (ps_if (pt_not (pt_tru (pv 1) (by intro _; rfl)))
(pss_one (ps_ret (pe_callTy call_int1 (by rfl) T.m_int (by decide +kernel) (pa_cons (pe_cmpR op_eq (pv 2) pe_int (nomark _)) pa_nil)))) pss_nil)
(pss_cons (ps_if (pt_cmpR op_eq (pe_callB call_len_seq (by rfl) T.m_len PySem.boot_len (pa_cons (pv 1) pa_nil)) pe_int (nomark _))
(pss_one (ps_ret (pe_ix ix_list (pe_ix ix_list (pv 0) (pe_ix ix_tup (pv 1) pe_int (fun _ _ => rfl)) (fun _ _ => rfl)) (pv 2) (fun _ _ => rfl)))) pss_nil)
(pss_cons (ps_set (i := 3) sc_ways_to_fill.nd rfl (.inl rfl) pe_int)
(pss_cons (ps_for PassesOwn.never rfl (pi_range2 (by rfl) T.m_range (pa_cons pe_int (pa_cons (pv 2) pa_nil))) (pg_name (i := 4) sc_ways_to_fill.nd rfl (.inl rfl))
(pss_cons (ps_set (i := 5) sc_ways_to_fill.nd rfl (.inl rfl) (pe_ix ix_list (pe_ix ix_list (pv 0) (pe_ix ix_tup (pv 1) pe_int (fun _ _ => rfl)) (fun _ _ => rfl)) (pv 4) (fun _ _ => rfl)))
(pss_one (ps_if (pt_cmpR op_gt (pv 5) pe_int (nomark _))
(pss_one (ps_aug (i := 3) sc_ways_to_fill.nd rfl (.inl rfl) (pe_op op_mulW (pv 5) (pe_c G_ways_to_fill hr (pa_cons (pv 0) (pa_cons (pe_slice sl_tupA (pv 1) (po_some pe_int) po_none) (pa_cons (pe_op op_sub (pv 2) (pv 4)) pa_nil))))) ip_add)) pss_nil))))
(pss_one (ps_ret (pv 3))))))), ?_⟩
      refine s_if (et_not (et_tup (et_of (ev_var rfl) hsa))) (fun hb H1 e1 => ?_) (fun hb H1 e1 => ?_)
      · have : slots = [] := by
          cases slots with
          | nil => rfl
          | cons a r => simp at hb
        subst this
        refine s_ret (v := nV (if parts = 0 then 1 else 0)) (fun H2 e2 Q2 q2 => ?_) fun H2 e2 => q _ H2 (e1.trans e2) ?_ ?_
        · refine (ea_cons (ev_op (ev_var rfl) ev_c (rv_eq rfl)) ea_nil) H2 e2 _ fun H3 e3 => Or.inr ⟨_, rfl, ?_⟩
          have : (V.int (if decide (nV parts = V.int 0) = true then 1 else 0)) = nV (if parts = 0 then 1 else 0) := by
            by_cases h0 : parts = 0
            · subst h0
              rfl
            · rw [if_neg h0, if_neg (fun z => h0 (by
                have : ((parts : Nat) : Int) = 0 := V.int.inj (of_decide_eq_true z)
                omega))] <;> rfl
          rw [this]
          exact q2 H3 e3
        · have := Nat.two_pow_pos (20 * parts + 5 * ([] : List Nat).length)
          split <;> omega
        · intro ns hf hl
          rw [hf.nil_inv] at hl
          rw [if_pos (show parts = 0 from hl.symm)]
          exact Nat.le_refl _
      · obtain ⟨s, r, rfl⟩ : ∃ s r, slots = s :: r := by
          cases slots with
          | nil => simp at hb
          | cons a r => exact ⟨a, r, rfl⟩
        have hsc := hlt s List.mem_cons_self
        refine s_if (et_test (ev_op (ev_lenT (et_of (ev_var rfl) (e1 _ _ hsa))) ev_c (rv_eq rfl))) (fun hb2 H2 e2 => ?_) (fun hb2 H2 e2 => ?_)
        · have : r = [] := by
            have h1 : (((s :: r).map nV).length : Int) = 1 := V.int.inj (of_decide_eq_true hb2)
            rw [List.length_map, List.length_cons] at h1
            exact List.length_eq_zero_iff.mp (by omega)
          subst this
          have e12 := e1.trans e2
          refine s_ret (ev_tab (ev_var rfl) (ev_ixT (i := 0) (ev_var rfl) ev_c (e12 _ _ hsa) rfl) (ev_var rfl) (hls.ex e12) hT.len hT.row hsc hpM) fun H3 e3 => q _ H3 (e12.trans e3) (Nat.le_trans (hT.up s parts hsc (Nat.le_refl _)) (Nat.pow_le_pow_right (by decide) (by omega))) fun ns hf hl => hT.low s parts ns hsc (Nat.le_refl _) hf hl
        · obtain ⟨s2, r2, rfl⟩ : ∃ s2 r2, r = s2 :: r2 := by
            cases r with
            | nil => exact absurd rfl (of_decide_eq_false hb2)
            | cons a r => exact ⟨a, r, rfl⟩
          dsimp only [L2.tNext]
          refine s_asg ev_c fun H3 e3 => ?_
          have e13 := e1.trans (e2.trans e3)
          generalize hrest : s2 :: r2 = rest at *
          have hrl : 1 ≤ rest.length := by rw [← hrest, List.length_cons]; omega
          rw [List.length_cons] at hn h3
          refine s_forR2 (lo := 1) (n := (parts : Int)) (ea_cons ev_c (ea_cons (ev_var rfl) ea_nil)) (by omega) (fun i σ' H' => ∃ (tot : Nat) (y4 y5 : Option V), σ' = [some (.ref d), some (.ref sa), some (nV parts), some (nV tot), y4, y5] ∧ Ex H H' ∧ tot ≤ i * 2 ^ (20 * parts + 5 * rest.length) ∧ (∀ u v, Fo F [s] u → Fo F rest v → u.length + v.length = parts → 1 ≤ u.length → u.length < 1 + i → 1 ≤ tot))
            (fun H4 e4 => ⟨0, none, none, rfl, e13.trans e4, Nat.zero_le _, fun u v _ _ _ h1 h2 => by omega⟩) (fun i σ' H4 hi hW => ?_) (fun σ' H4 hW => ?_)
          · obtain ⟨tot, y4, y5, rfl, eH, hub, hlb⟩ := hW
            have ei : (1 : Int) + (i : Int) = ((1 + i : Nat) : Int) := by omega
            rw [ei]
            have hfl : 1 + i < parts := by omega
            refine s_asg (ev_tab (s := s) (p := 1 + i) (ev_var rfl) (ev_ixT (i := 0) (ev_var rfl) ev_c (eH _ _ hsa) rfl) (ev_var rfl) (hls.ex eH) hT.len hT.row hsc (by omega)) fun H5 e5 => ?_
            have hmu := hT.up s (1 + i) hsc (by omega)
            refine s_if (et_test (ev_op (ev_var rfl) ev_c rv_I0)) (fun hb5 H6 e6 => ?_) (fun hb5 H6 e6 => ?_)
            · have eH6 := eH.trans (e5.trans e6)
              have key := ex_ways (n := n) (σ := [some (.ref d), some (.ref sa), some (nV parts), some (nV tot), some (nV (1 + i)), some (nV (tg Tb s (1 + i)))]) (H := H6) (ta := tVar 0) (tb := tSl (rSlA K) (tVar 1) (tPart (tC (.int 1))) tNoPart) (tc := tOp (rI0 fun i j => .int (i - j)) (tVar 2) (tVar 4)) (parts := parts - (1 + i)) (slots := rest)
                (ev_var rfl) (etu_is (et_slice (et_of (ev_var rfl) (eH6 _ _ hsa)) (ep_some (n := 1) ev_c) ep_none) (cut_from (s :: rest) 1)) (ev_is (ev_op (ev_var rfl) (ev_var rfl) rv_I0) (by show V.int _ = V.int _; congr 1; omega)) (hls.ex eH6) (by omega) (by omega) (fun t ht => hlt t (List.mem_cons_of_mem _ ht)) (hT.mono (by omega)) (by omega) hM
              refine s_augX (te := tOp (rI CMulW fun i j => .int (i * j)) (tVar 5) (tCall (spWays n) [] E0 (tCons (tVar 0) (tCons (tSl (rSlA K) (tVar 1) (tPart (tC (.int 1))) tNoPart) (tCons (tOp (rI0 fun i j => .int (i - j)) (tVar 2) (tVar 4)) tNil))))) (a := (tot : Int)) (P' := fun b => ∃ c : Nat, b = ((tg Tb s (1 + i) * c : Nat) : Int) ∧ c ≤ 2 ^ (20 * (parts - (1 + i)) + 5 * rest.length) ∧ (∀ ns, Fo F rest ns → ns.length = parts - (1 + i) → 1 ≤ c)) rfl (fun H7 e7 Q7 q7 => ?_) fun b H7 e7 hb7 => ?_
              · refine (ev_var (i := 5) rfl) H7 e7 _ fun H8 e8 => key H8 (e7.trans e8) _ fun v H9 e9 hv => ?_
                obtain ⟨c, rfl, h1, h2⟩ := hv
                refine ⟨_, _, rfl, rfl, wide_mul (natAbs_lt _ hmu) (natAbs_lt _ h1) (by omega) (by omega) (by omega), ?_⟩
                show Q7 (V.int (_ * _)) H9
                rw [← Int.natCast_mul]
                exact q7 _ H9 (e8.trans e9) ⟨_, rfl, c, rfl, h1, h2⟩
              · obtain ⟨c, rfl, h1, h2⟩ := hb7
                refine ⟨tot + tg Tb s (1 + i) * c, _, _, by rw [← Int.natCast_add] <;> rfl, eH6.trans e7, ?_, fun u v h4 h5 h6 h7 h8 => ?_⟩
                · have h9 : tg Tb s (1 + i) * c ≤ 2 ^ (20 * (1 + i)) * 2 ^ (20 * (parts - (1 + i)) + 5 * rest.length) := Nat.mul_le_mul hmu h1
                  rw [← Nat.pow_add, show 20 * (1 + i) + (20 * (parts - (1 + i)) + 5 * rest.length) = 20 * parts + 5 * rest.length by omega] at h9
                  rw [Nat.succ_mul]
                  omega
                · by_cases hu : u.length < 1 + i
                  · have := hlb u v h4 h5 h6 h7 hu
                    omega
                  · have hul : u.length = 1 + i := by omega
                    have k1 := hT.low s (1 + i) u hsc (by omega) h4 hul
                    have k2 := h2 v h5 (by omega)
                    have k3 : 1 * 1 ≤ tg Tb s (1 + i) * c := Nat.mul_le_mul k1 k2
                    omega
            · refine ⟨tot, _, _, rfl, eH.trans (e5.trans e6), Nat.le_trans hub (Nat.mul_le_mul_right _ (by omega)), fun u v h1 h2 h4 h5 h6 => ?_⟩
              by_cases hu : u.length < 1 + i
              · exact hlb u v h1 h2 h4 h5 hu
              · have := hT.low s (1 + i) u hsc (by omega) h1 (by omega)
                have hb5' := of_decide_eq_false hb5
                exact absurd (show (0 : Int) < ((tg Tb s (1 + i) : Nat) : Int) by omega) hb5'
          · obtain ⟨tot, y4, y5, rfl, eH, hub, hlb⟩ := hW
            refine s_ret (ev_var rfl) fun H5 e5 => q tot H5 (eH.trans e5) ?_ fun ns hf hl => ?_
            · have h1 : ((parts : Int) - 1).toNat ≤ 2 ^ 5 := by
                show _ ≤ 32
                omega
              have h2 : 20 * parts + 5 * (s :: rest).length = 5 + (20 * parts + 5 * rest.length) := by rw [List.length_cons]; omega
              rw [h2, Nat.pow_add]
              exact Nat.le_trans hub (Nat.mul_le_mul_right _ h1)
            · obtain ⟨u, v, rfl, h1, h2⟩ := hf.split [s] rest rfl
              rw [List.length_append] at hl
              have := h1.pos
              have h4 : 1 ≤ v.length := by
                rw [← hrest] at h2
                obtain ⟨n', ns', x', rfl, _⟩ := h2.inv'
                rw [List.length_cons]
                omega
              exact hlb u v h1 h2 hl this (by omega)
/-! ### sizes_of -/
theorem s_augE {σ : L2.St} {H : Hp} {to ti te : TE} {D : Ends} {l : Addr} {xs : List V} {j : Nat} {a : Int} {P' : Int → Prop} (ho : Ev to σ H (.ref l)) (hi : Ev ti σ H (nV j)) (hl : H l = some (.lst xs)) (hj : xs[j]? = some (.int a)) (h : EX te σ H (fun v _ => ∃ b, v = .int b ∧ P' b)) (k : ∀ b H1, Ex H H1 → P' b → D.nx σ (upd H1 l (.lst (xs.set j (.int (a + b)))))) :
    tAugS to ti te (gIxL K) (ipI fun i j => i + j) rSetL D σ H :=
  ho H (Ex.refl H) _ fun H1 e1 => hi H1 e1 _ fun H2 e2 => ⟨l, xs, j, _, rfl, rfl, SqL.of (e2 _ _ (e1 _ _ hl)), hj, h H2 (e1.trans e2) _ fun v H3 e3 hv => by
    obtain ⟨b, rfl, hb⟩ := hv
    exact ⟨a, b, rfl, rfl, l, xs, (j : Int), j, rfl, rfl, e3 _ _ (e2 _ _ (e1 _ _ hl)), ixN_nat (get_lt hj), k b H3 (e1.trans (e2.trans e3)) hb⟩⟩
def put2 (T : List (List Nat)) (s p v : Nat) : List (List Nat) := T.set s ((T.getD s []).set p v)
theorem put2_len {T : List (List Nat)} {s p v : Nat} : (put2 T s p v).length = T.length := List.length_set
theorem put2_row {T : List (List Nat)} {s p v M : Nat} (h : ∀ r ∈ T, r.length = M + 1) (hs : s < T.length) : ∀ r ∈ put2 T s p v, r.length = M + 1 := fun r hr => by
  rcases List.mem_or_eq_of_mem_set hr with hr | hr
  · exact h r hr
  · rw [hr, List.length_set, List.getD_eq_getElem?_getD, List.getElem?_eq_getElem hs]
    exact h _ (List.getElem_mem hs)
theorem tg_put {T : List (List Nat)} {s p v M : Nat} (h : ∀ r ∈ T, r.length = M + 1) (hs : s < T.length) (hp : p ≤ M) (s' p' : Nat) : tg (put2 T s p v) s' p' = if s' = s ∧ p' = p then v else tg T s' p' := by
  have hrow := h _ (List.getElem_mem hs)
  unfold tg put2
  by_cases es : s' = s
  · subst es
    have e1 : (T.set s' ((T.getD s' []).set p v)).getD s' [] = (T.getD s' []).set p v := by
      rw [List.getD_eq_getElem?_getD, List.getElem?_set_self hs] <;> rfl
    have e2 : T.getD s' [] = T[s'] := by rw [List.getD_eq_getElem?_getD, List.getElem?_eq_getElem hs] <;> rfl
    rw [e1, e2]
    by_cases ep : p' = p
    · subst ep
      rw [if_pos ⟨rfl, rfl⟩, List.getD_eq_getElem?_getD, List.getElem?_set_self (by omega)] <;> rfl
    · rw [if_neg (fun z => ep z.2), List.getD_eq_getElem?_getD, List.getElem?_set_ne (fun z => ep z.symm), List.getD_eq_getElem?_getD]
  · rw [if_neg (fun z => es z.1)]
    congr 1
    rw [List.getD_eq_getElem?_getD, List.getElem?_set_ne (fun z => es z.symm), List.getD_eq_getElem?_getD]
theorem sc_sizes_of : FnScope ["family", "most", "sizes", "parts", "plug", "slots", "price", "state"] ["family", "most"] (defScope (top 14)) := ⟨rfl, rfl, rfl, by decide +kernel, rfl, by decide +kernel, by decide +kernel⟩
-- slots: 0 family, 1 most, 2 sizes, 3 parts, 4 plug, 5 slots, 6 price, 7 state

def spSizes : Sp := fun vs H Q _ => ∃ (f : Addr) (L : Lay) (F : Fam) (M : Nat), vs = [.ref f, nV M] ∧ FamAt H f L F ∧ M ≤ 20 ∧ ∀ d ps T H', Ex H H' → LsAt H' d ps (rowsV T) → TabOk F T M M → Q (.ref d) H'
theorem rows_rep (n : Nat) (r : List Nat) : rowsV (List.replicate n r) = List.replicate n (r.map nV) := List.map_replicate
theorem ok_sizes_of (T : Txt K mg) : Good P w K mg base CX0 5 "sizes_of" ["family", "most"] spSizes := by
  have G_ways_to_fill : Good P w K mg base CX0 4 "ways_to_fill" ["sizes", "slots", "parts"] (spWays 3) := ok_ways T 3
  refine Good.of T (j := 5) (i := 14) rfl rfl sc_sizes_of (fun _ _ _ _ _ _ us hl => match us, hl with | [_, _], _ => rfl) (fun vs H Q E h => ?_) (fun cdv A outer s0 H vs Q E hr h => ?_)
  · obtain ⟨f, L, F, M, rfl, _⟩ := h
    rfl
  · obtain ⟨f, L, F, M, rfl, hF, hM, q⟩ := h
    refine ⟨_, (pss_cons (ps_setLc (i := 2) (own := [("state", 7)]) rfl sc_sizes_of.nd rfl rfl (sw_true rfl rfl rfl (by decide +kernel)) (pi_range1 (by rfl) T.m_range (pa_cons (pe_ix ix_tup (pv 0) pe_int (fun _ _ => rfl)) pa_nil)) (blkOk_by (own := [("state", 7)]) (N := ["family", "most", "sizes", "parts", "plug", "slots", "price", "state"]) (sc := defScope (top 14)) (by decide +kernel)) (fun _ _ _ _ _ => (pg_name (i := 7) sc_sizes_of.nd rfl (.inl rfl))) (fun _ _ _ _ _ => pts_nil) (fun _ _ _ _ _ => (pe_op op_rep (pe_lst (pa_cons pe_int pa_nil)) (pe_op op_add (pv 1) pe_int))))
(pss_cons (ps_for PassesOwn.never rfl (pi_range2 (by rfl) T.m_range (pa_cons pe_int (pa_cons (pe_op op_add (pv 1) pe_int) pa_nil))) (pg_name (i := 3) sc_sizes_of.nd rfl (.inl rfl))
(pss_one (ps_for PassesOwn.never rfl (pi_tup (pe_ix ix_tup (pv 0) pe_int (fun _ _ => rfl))) (pg_tup (by rfl) (pgs_cons (pg_name (i := 4) sc_sizes_of.nd rfl (.inl rfl)) (pgs_cons (pg_name (i := 5) sc_sizes_of.nd rfl (.inl rfl)) (pgs_cons (pg_name (i := 6) sc_sizes_of.nd rfl (.inl rfl)) pgs_nil))))
(pss_one (ps_if (pt_cmpR op_notN (pv 6) pe_non (nomark _))
(pss_one (ps_augS (pe_ix ix_list (pv 2) (pv 4) (fun _ _ => rfl)) (pv 3) get_list (pe_c G_ways_to_fill hr (pa_cons (pv 2) (pa_cons (pv 5) (pa_cons (pe_op op_sub (pv 3) pe_int) pa_nil)))) ip_add set_list)) pss_nil)))))
(pss_one (ps_ret (pv 2))))), ?_⟩
    have ok := hF.ok
    have c4 := ok.c4
    have v12 := ok.v12
    refine s_lists (n := F.cnt) (xs := List.replicate (M + 1) (nV 0)) (ea_cons (ev_f0 (ev_var rfl) hF) ea_nil) (by omega) (fun a ha H1 e1 => ?_) fun d H1 ps e1 nd hps hls hpsn => ?_
    · have z := el_rep (ta := tLst (tCons (tC (.int 0)) tNil)) (tb := tOp (rI0 fun i j => .int (i + j)) (tVar 1) (tC (.int 1))) (σ := [some (.ref f), some (nV M), none, none, none, none, none, some (nV a)]) (H := H1) (n := M + 1) (el_lst (ea_cons ev_c ea_nil) (by show 1 ≤ 100000; decide)) (ev_is (ev_op (ev_var rfl) ev_c rv_I0) (by show V.int _ = V.int _; rw [Int.natCast_succ])) (by show 1 * (M + 1) ≤ 100000; omega) (by omega)
      rw [flat_rep] at z
      exact z
    · have hls0 : LsAt H1 d ps (rowsV (List.replicate F.cnt (List.replicate (M + 1) 0))) := by
        rw [rows_rep, List.map_replicate]
        exact hls
      have hF1 := hF.ex e1
      have hT0 : TabOk F (List.replicate F.cnt (List.replicate (M + 1) 0)) M 0 ∧ ∀ s p, tg (List.replicate F.cnt (List.replicate (M + 1) 0)) s p = 0 := by
        have hz : ∀ s p, tg (List.replicate F.cnt (List.replicate (M + 1) 0)) s p = 0 := fun s p => by
          unfold tg
          rw [List.getD_eq_getElem?_getD, List.getD_eq_getElem?_getD, List.getElem?_replicate]
          split
          · show ((List.replicate (M + 1) 0)[p]?).getD 0 = 0
            rw [List.getElem?_replicate]
            split <;> rfl
          · rfl
        refine ⟨⟨List.length_replicate, fun r hr => by rw [List.eq_of_mem_replicate hr, List.length_replicate], fun s p _ _ => by rw [hz]; exact Nat.zero_le _, fun s p ns _ hp hf hl => ?_⟩, hz⟩
        have := hf.pos
        omega
      refine s_forR2 (lo := 1) (n := ((M + 1 : Nat) : Int)) (ea_cons ev_c (ea_cons (ev_is (ev_op (ev_var rfl) ev_c rv_I0) (by show V.int _ = V.int _; rw [Int.natCast_succ])) ea_nil)) (by omega) (fun i σ' H' => ∃ (T : List (List Nat)) (y3 y4 y5 y6 : Option V), σ' = [some (.ref f), some (nV M), some (.ref d), y3, y4, y5, y6, none] ∧ Ex H H' ∧ LsAt H' d ps (rowsV T) ∧ TabOk F T M i ∧ ∀ s p, i < p → tg T s p = 0)
        (fun H2 e2 => ⟨_, none, none, none, none, rfl, e1.trans e2, hls0.ex e2, hT0.1, fun s p _ => hT0.2 s p⟩) (fun i σ' H2 hi hW => ?_) (fun σ' H2 hW => ?_)
      · obtain ⟨Tb, y3, y4, y5, y6, rfl, eH, hls2, hT, hzero⟩ := hW
        have ei : (1 : Int) + (i : Int) = ((1 + i : Nat) : Int) := by omega
        rw [ei]
        have hiM : 1 + i ≤ M := by omega
        refine s_forT (ev_f2 (ev_var rfl) (hF.ex eH)) (SqT.of (hF.ex eH).h2) (fun j σ' H' => ∃ (T2 : List (List Nat)) (y4 y5 y6 : Option V), σ' = [some (.ref f), some (nV M), some (.ref d), some (nV (1 + i)), y4, y5, y6, none] ∧ Ex H H' ∧ LsAt H' d ps (rowsV T2) ∧ T2.length = F.cnt ∧ (∀ r ∈ T2, r.length = M + 1) ∧ (∀ s p, p ≠ 1 + i → tg T2 s p = tg Tb s p) ∧
            (∀ s, tg T2 s (1 + i) ≤ j * 2 ^ (20 * i + 15)) ∧ (∀ x ∈ F.vs.take j, x.price.isSome = true → ∀ ns, Fo F x.slots ns → ns.length = i → 1 ≤ tg T2 x.plug (1 + i)))
          (fun H3 e3 => ⟨Tb, _, _, _, rfl, eH.trans e3, hls2.ex e3, hT.len, hT.row, fun _ _ _ => rfl, fun s => by rw [hzero s (1 + i) (by omega)]; exact Nat.zero_le _, fun x hx => absurd (show x ∈ ([] : List Var) from hx) List.not_mem_nil⟩) (fun j σ' H' _ hW => SqT.of (by obtain ⟨_, _, _, _, _, z, _⟩ := hW; exact z _ _ hF.h2)) (fun j v σ' H3 hx hW => ?_) (fun σ' H3 hW => ?_)
        · obtain ⟨T2, y4, y5, y6, rfl, eH3, hls3, hTl, hTr, hoth, hup, hlow⟩ := hW
          obtain ⟨x, hx', rfl⟩ := FamAt.vs F L hx
          have hv3 := (hF.ex eH3).h3 j x hx'
          have hpl := ok.pl x (get_mem hx')
          have hsl3 := ok.s3 x (get_mem hx')
          have htk : F.vs.take (j + 1) = F.vs.take j ++ [x] := by rw [List.take_add_one, hx'] <;> rfl
          refine ⟨L.va j, _, rfl, SqT.of hv3.h, rfl, _, _, rfl, _, _, rfl, _, _, rfl, rfl, ?_⟩
          refine s_if (et_test (ev_notN (ev_var rfl))) (fun hb H4 e4 => ?_) (fun hb H4 e4 => ?_)
          · have hT2 : TabOk F T2 M i := ⟨hTl, hTr, fun s p a b => by rw [hoth s p (by omega)]; exact hT.up s p a b, fun s p ns a b => by rw [hoth s p (by omega)]; exact hT.low s p ns a b⟩
            obtain ⟨r, h1, h2⟩ := tg_at hTl hTr hpl hiM
            obtain ⟨qa, h3, h4⟩ := (hls3.ex e4).at (get_map (c := fun r : List Nat => r.map nV) h1)
            have hqn : H1 qa = none ∨ True := .inr trivial
            have hqd : H qa = none := hpsn qa (get_mem h3)
            refine s_augE (P' := fun b => ∃ c : Nat, b = (c : Int) ∧ c ≤ 2 ^ (20 * i + 5 * x.slots.length) ∧ (∀ ns, Fo F x.slots ns → ns.length = i → 1 ≤ c)) (ev_ls (ev_var rfl) (ev_var rfl) (hls3.ex e4) h3) (ev_var rfl) h4 (get_map h2) (fun H5 e5 Q5 q5 => ?_) fun b H5 e5 hb5 => ?_
            · exact ex_ways (n := 3) (ev_var rfl) (et_of (ev_var rfl) (e4 _ _ hv3.hs)) (ev_is (ev_op (ev_var rfl) ev_c rv_I0) (by show V.int _ = V.int _; congr 1; omega)) (hls3.ex e4) hsl3 hsl3 (ok.sl x (get_mem hx')) hT2 (by omega) hM H5 e5 Q5 fun v H6 e6 hv => by
                obtain ⟨c, rfl, k1, k2⟩ := hv
                exact q5 _ H6 e6 ⟨_, rfl, c, rfl, k1, k2⟩
            · obtain ⟨c, rfl, k1, k2⟩ := hb5
              have hset : (rowsV T2).set x.plug ((r.map nV).set (1 + i) (V.int (((tg T2 x.plug (1 + i) : Nat) : Int) + (c : Int)))) = rowsV (put2 T2 x.plug (1 + i) (tg T2 x.plug (1 + i) + c)) := by
                unfold put2
                have e5 : T2.getD x.plug [] = r := by rw [List.getD_eq_getElem?_getD, h1] <;> rfl
                rw [e5]
                show _ = List.map _ _
                rw [List.map_set, List.map_set, ← Int.natCast_add] <;> rfl
              refine ⟨put2 T2 x.plug (1 + i) (tg T2 x.plug (1 + i) + c), _, _, _, rfl, Ex.mut (eH3.trans (e4.trans e5)) hqd, by rw [← hset]; exact ((hls3.ex e4).ex e5).upd h3, by rw [put2_len]; exact hTl, put2_row hTr (by omega), fun s p hp => ?_, fun s => ?_, fun y hy hpr ns hf hl => ?_⟩
              · rw [tg_put hTr (by omega) hiM, if_neg (fun z => hp z.2)]
                exact hoth s p hp
              · have k3 : 2 ^ (20 * i + 5 * x.slots.length) ≤ 2 ^ (20 * i + 15) := Nat.pow_le_pow_right (by decide) (by omega)
                rw [tg_put hTr (by omega) hiM, Nat.succ_mul]
                have hu1 := hup s
                have := Nat.two_pow_pos (20 * i + 15)
                split
                · rename_i hc
                  rw [hc.1] at hu1
                  omega
                · omega
              · rw [tg_put hTr (by omega) hiM]
                split
                · rename_i hc
                  rw [htk] at hy
                  rcases List.mem_append.mp hy with hy | hy
                  · have := hlow y hy hpr ns hf hl
                    rw [hc.1] at this
                    omega
                  · rw [List.mem_singleton] at hy
                    subst hy
                    have := k2 ns hf hl
                    omega
                · rename_i hc
                  rw [htk] at hy
                  rcases List.mem_append.mp hy with hy | hy
                  · exact hlow y hy hpr ns hf hl
                  · rw [List.mem_singleton] at hy
                    exact absurd ⟨by rw [hy], rfl⟩ hc
          · refine ⟨T2, _, _, _, rfl, eH3.trans e4, hls3.ex e4, hTl, hTr, hoth, fun s => ?_, fun y hy hpr ns hf hl => ?_⟩
            · have := hup s
              have := Nat.two_pow_pos (20 * i + 15)
              rw [Nat.succ_mul]
              omega
            · rw [htk] at hy
              rcases List.mem_append.mp hy with hy | hy
              · exact hlow y hy hpr ns hf hl
              · rw [List.mem_singleton] at hy
                subst hy
                cases z : y.price with
                | none => rw [z] at hpr; cases hpr
                | some pr =>
                  rw [z] at hb
                  have hb' : (!decide (pV (some pr) = V.non)) = false := hb
                  rw [decide_eq_false (fun z => by cases z)] at hb'
                  cases hb'
        · obtain ⟨T2, y4, y5, y6, rfl, eH3, hls3, hTl, hTr, hoth, hup, hlow⟩ := hW
          rw [List.length_map, List.length_range] at hup hlow
          rw [List.take_length] at hlow
          refine ⟨T2, _, _, _, _, rfl, eH3, hls3, ⟨hTl, hTr, fun s p hs hp => ?_, fun s p ns hs hp hf hl => ?_⟩, fun s p hp => ?_⟩
          · by_cases e : p = 1 + i
            · subst e
              have h1 := hup s
              have h2 : F.vs.length * 2 ^ (20 * i + 15) ≤ 2 ^ 4 * 2 ^ (20 * i + 15) := Nat.mul_le_mul_right _ (by show _ ≤ 16; omega)
              rw [← Nat.pow_add] at h2
              have h3 : 2 ^ (4 + (20 * i + 15)) ≤ 2 ^ (20 * (1 + i)) := Nat.pow_le_pow_right (by decide) (by omega)
              omega
            · rw [hoth s p e]
              exact hT.up s p hs (by omega)
          · by_cases e : p = 1 + i
            · subst e
              obtain ⟨n, ns', x, rfl, hx, hpr, rfl, hfo⟩ := hf.inv'
              rw [List.append_nil] at hfo
              exact hlow x (get_mem hx) hpr ns' hfo (by rw [List.length_cons] at hl; omega)
            · rw [hoth s p e]
              exact hT.low s p ns hs (by omega) hf hl
          · rw [hoth s p (by omega)]
            exact hzero s p (by omega)
      · obtain ⟨Tb, y3, y4, y5, y6, rfl, eH, hls2, hT, hzero⟩ := hW
        have e : (((M + 1 : Nat) : Int) - 1).toNat = M := by omega
        rw [e] at hT
        exact s_ret (ev_var rfl) fun H3 e3 => q d ps Tb H3 (eH.trans e3) (hls2.ex e3) hT
/-! ### counts_by_size -/
theorem sc_counts_by_size : FnScope ["family", "state", "most"] ["family", "state", "most"] (defScope (top 15)) := ⟨rfl, rfl, rfl, by decide +kernel, rfl, by decide +kernel, by decide +kernel⟩
-- slots: 0 family, 1 state, 2 most

def spCounts : Sp := fun vs H Q _ => ∃ (f : Addr) (L : Lay) (F : Fam) (s M : Nat), vs = [.ref f, nV s, nV M] ∧ FamAt H f L F ∧ M ≤ 20 ∧ 1 ≤ M ∧ s < F.cnt ∧ ∀ r (row : List Nat) (v : Nat) H', Ex H H' → H' r = some (.tup (row.map nV)) → row[M - 1]? = some v → (∀ ns, Fo F [s] ns → ns.length = M → 1 ≤ v) → Q (.ref r) H'
theorem ok_counts_by_size (T : Txt K mg) : Good P w K mg base CX0 6 "counts_by_size" ["family", "state", "most"] spCounts := by
  have G_sizes_of : Good P w K mg base CX0 5 "sizes_of" ["family", "most"] spSizes := ok_sizes_of T
  refine Good.of T (j := 6) (i := 15) rfl rfl sc_counts_by_size (fun _ _ _ _ _ _ us hl => match us, hl with | [_, _, _], _ => rfl) (fun vs H Q E h => ?_) (fun cdv A outer s0 H vs Q E hr h => ?_)
  · obtain ⟨f, L, F, s, M, rfl, _⟩ := h
    rfl
  · obtain ⟨f, L, F, s, M, rfl, hF, hM, h1M, hs, q⟩ := h
    refine ⟨_, (pss_one (ps_ret (pe_callTy call_tuple_of (by rfl) T.m_tuple (by decide +kernel) (pa_cons (pe_slice sl_list (pe_ix ix_list (pe_c G_sizes_of hr (pa_cons (pv 0) (pa_cons (pv 2) pa_nil))) (pv 1) (fun _ _ => rfl)) (po_some pe_int) po_none) pa_nil)))), ?_⟩
    have ok := hF.ok
    refine s_retX (P := fun v H' => ∃ (r : Addr) (row : List Nat) (v0 : Nat), v = .ref r ∧ H' r = some (.tup (row.map nV)) ∧ row[M - 1]? = some v0 ∧ (∀ ns, Fo F [s] ns → ns.length = M → 1 ≤ v0)) (fun H1 e1 Q1 q1 => ?_) fun v H1 e1 hv => ?_
    · have k0 : EX (tCall spSizes [] E0 (tCons (tVar 0) (tCons (tVar 2) tNil))) [some (.ref f), some (nV s), some (nV M)] H (fun v H' => ∃ d ps T, v = .ref d ∧ LsAt H' d ps (rowsV T) ∧ TabOk F T M M) :=
        ex_call (ea_cons (ev_var rfl) (ea_cons (ev_var rfl) ea_nil)) fun H2 e2 Q2 q2 E2 => ⟨f, L, F, M, rfl, hF.ex e2, hM, fun d ps Tb H3 e3 h1 h2 => q2 _ H3 e3 ⟨d, ps, Tb, rfl, h1, h2⟩⟩
      refine k0 H1 e1 _ fun v H2 e2 hv => ?_
      obtain ⟨d, ps, Tb, rfl, hls, hT⟩ := hv
      obtain ⟨r, h3, h4⟩ := tg_at hT.len hT.row hs (Nat.le_refl M)
      obtain ⟨qa, h5, h6⟩ := hls.at (get_map (c := fun r : List Nat => r.map nV) h3)
      have key : ET (tCB (fun xs H Q => ∃ p ys, xs = [.ref p] ∧ ((SqL K H p ys ∧ ∀ l, H l = none → Q (.ref l) (upd H l (.tup ys))) ∨ (SqT K H p ys ∧ Q (.ref p) H))) (tCons (tSl (rSlL K) (tOp (rIxL K) (tC (.ref d)) (tVar 1)) (tPart (tC (.int 1))) tNoPart) tNil)) [some (.ref f), some (nV s), some (nV M)] H2 ((r.drop 1).map nV) :=
        etu_is (et_tupleN (el_sl (ev_ls ev_c (ev_var rfl) hls h5) (eo_some ev_c) eo_none (SqL.of h6))) (cut_from r 1)
      exact key H2 (Ex.refl H2) _ fun rr H3 e3 hrr => q1 _ H3 (e2.trans e3) ⟨rr, r.drop 1, tg Tb s M, rfl, hrr, by rw [List.getElem?_drop, show 1 + (M - 1) = M by omega]; exact h4, fun ns hf hl => hT.low s M ns hs (Nat.le_refl _) hf hl⟩
    · obtain ⟨r, row, v0, rfl, h1, h2, h3⟩ := hv
      exact q r row v0 H1 e1 h1 h2 h3
end
end S
end

section
set_option Elab.async false
set_option linter.all false
set_option autoImplicit false
set_option maxRecDepth 100000
set_option maxHeartbeats 4000000
namespace S
open PySem PySem.Spec PyProof.Rows L2 Evl
section
variable {P : Program} {w : World} {K : PySem.W.Frag} {mg : Str → Option Value} {base : Heap}
/-! ### _law_integer, _law_integers -/
theorem sc_law_integer : FnScope ["_law_actual"] ["_law_actual"] (defScope (top 43)) := ⟨rfl, rfl, rfl, by decide +kernel, rfl, by decide +kernel, by decide +kernel⟩
-- slots: 0 _law_actual

def spInt : Sp := fun vs H Q _ => ∃ n : Int, vs = [.int n] ∧ ∀ H', Ex H H' → Q (.bl true) H'
theorem ev_isi {σ : L2.St} {H : Hp} {ta tb : TE} {x : V} {c : String} {t : Value} {b : Bool} (ha : Ev ta σ H x) (hb : Ev tb σ H (.ty c)) (ht : ∀ H1, Ex H H1 → TyX K H1 x t) (hk : PySem.W.kitOne K t (.type c) = some b) : Ev (tCB (rIsi K) (tCons ta (tCons tb tNil))) σ H (.bl b) := fun H1 e Q q =>
  ha H1 e _ fun H2 e2 => hb H2 (e.trans e2) _ fun H3 e3 => ⟨x, .ty c, t, .type c, b, rfl, .ty c, ht H3 ((e.trans e2).trans e3), hk, q H3 (e2.trans e3)⟩
theorem ok_law_integer (T : Txt K mg) : Good P w K mg base CX0 1 "_law_integer" ["_law_actual"] spInt := by
  refine Good.of T (j := 29) (i := 43) rfl rfl sc_law_integer (fun _ _ _ _ _ _ us hl => match us, hl with | [_], _ => rfl) (fun vs H Q E h => ?_) (fun cdv A outer s H vs Q E hr h => ?_)
  · obtain ⟨n, rfl, _⟩ := h
    rfl
  · obtain ⟨n, rfl, q⟩ := h
    refine ⟨_, (pss_one (ps_ret (pe_and (pe_callB call_isi (by rfl) T.m_isinstance (by decide +kernel) (pa_cons (pv 0) (pa_cons (pe_bltn (v := .ty "int") (by rfl) T.m_int (by decide +kernel) rfl) pa_nil))) (pe_one (pe_not (pe_callB call_isi (by rfl) T.m_isinstance (by decide +kernel) (pa_cons (pv 0) (pa_cons (pe_bltn (v := .ty "bool") (by rfl) T.m_bool (by decide +kernel) rfl) pa_nil)))))))), ?_⟩
    exact s_ret (ev_andV (a := true) (b := true) (ev_isi (t := .type "int") (ev_var rfl) ev_c (fun _ _ => .base (.int n)) (by first | rfl | decide | with_unfolding_all rfl)) fun _ => ev_notV (a := false) (ev_isi (t := .type "int") (ev_var rfl) ev_c (fun _ _ => .base (.int n)) (by first | rfl | decide | with_unfolding_all rfl))) fun H1 e1 => q H1 e1
theorem sc_law_integers : FnScope ["_law_actual", "_law_size_here", "_law_number"] ["_law_actual", "_law_size_here"] (defScope (top 44)) := ⟨rfl, rfl, rfl, by decide +kernel, rfl, by decide +kernel, by decide +kernel⟩
-- slots: 0 _law_actual, 1 _law_size_here, 2 _law_number

def spInts : Sp := fun vs H Q _ => ∃ (p : Addr) (ns : List Int), vs = [.ref p, .int ns.length] ∧ H p = some (.tup (ns.map V.int)) ∧ ∀ H', Ex H H' → Q (.bl true) H'
theorem ok_law_integers (T : Txt K mg) : Good P w K mg base CX0 2 "_law_integers" ["_law_actual", "_law_size_here"] spInts := by
  have G_law_integer : Good P w K mg base CX0 1 "_law_integer" ["_law_actual"] spInt := ok_law_integer T
  refine Good.of T (j := 30) (i := 44) rfl rfl sc_law_integers (fun _ _ _ _ _ _ us hl => match us, hl with | [_, _], _ => rfl) (fun vs H Q E h => ?_) (fun cdv A outer s H vs Q E hr h => ?_)
  · obtain ⟨p, ns, rfl, _⟩ := h
    rfl
  · obtain ⟨p, ns, rfl, hp, q⟩ := h
    refine ⟨_, (pss_cons (ps_if (PW.pt (pw_or (pt_not (pt_val (pe_callB call_isi (by rfl) T.m_isinstance (by decide +kernel) (pa_cons (pv 0) (pa_cons (pe_bltn (v := .ty "tuple") (by rfl) T.m_tuple (by decide +kernel) rfl) pa_nil))))) (pw_or1 (pt_cmpR op_ne (pe_callB call_len_seq (by rfl) T.m_len PySem.boot_len (pa_cons (pv 0) pa_nil)) (pv 1) (nomark _)))))
(pss_one (ps_ret pe_bl)) pss_nil)
(pss_cons (ps_for PassesOwn.never rfl (pi_tup (pv 0)) (pg_name (i := 2) sc_law_integers.nd rfl (.inl rfl))
(pss_one (ps_if (pt_not (pt_val (pe_c G_law_integer hr (pa_cons (pv 2) pa_nil))))
(pss_one (ps_ret pe_bl)) pss_nil)))
(pss_one (ps_ret pe_bl)))), ?_⟩
    refine s_if (b := (!true) || !decide (V.int (ns.length : Int) = V.int (ns.length : Int))) (et_or (et_not (et_B (ev_isi (t := .type "tuple") (b := true) (ev_var rfl) ev_c (fun _ e => .base (.tup (e _ _ hp))) (by first | rfl | decide | with_unfolding_all rfl)))) fun _ => et_test (ev_op (ev_is (ev_lenT (et_of (ev_var rfl) hp)) (by rw [List.length_map] <;> rfl)) (ev_var rfl) (rv_ne rfl))) (fun z => ?_) (fun _ H1 e1 => ?_)
    · rw [decide_eq_true rfl] at z
      cases z
    refine s_forT (ev_var rfl) (SqT.of (e1 _ _ hp)) (fun i σ' H' => ∃ (y2 : Option V), σ' = [some (.ref p), some (.int ns.length), y2] ∧ Ex H H') (fun H2 e2 => ⟨none, rfl, e1.trans e2⟩) (fun i σ' H' _ hW => SqT.of (by obtain ⟨_, _, z⟩ := hW; exact z _ _ hp)) (fun i x σ' H2 hx hW => ?_) (fun σ' H2 hW => ?_)
    · obtain ⟨y2, rfl, e2⟩ := hW
      obtain ⟨n, hn, rfl⟩ := map_get hx
      refine s_if (et_not (et_B (b := true) fun H3 e3 Q3 q3 => (ea_cons (ev_var rfl) ea_nil) H3 e3 _ fun H4 e4 => ⟨n, rfl, fun H5 e5 => q3 H5 (e4.trans e5)⟩)) (fun z => by cases z) (fun _ H3 e3 => ⟨_, rfl, e2.trans e3⟩)
    · obtain ⟨y2, rfl, e2⟩ := hW
      dsimp only
      exact s_ret ev_c fun H3 e3 => q H3 (e2.trans e3)
/-! ### the tape -/
def hid (H : Hp) (t : Addr) : Hp := fun a => if a = t then none else H a
theorem hid_ne {H : Hp} {t a : Addr} (h : a ≠ t) : hid H t a = H a := if_neg h
theorem hid_same {H : Hp} {t : Addr} : hid H t t = none := if_pos rfl
/-- all stays but what is at t -/
def Et (t : Addr) (H H' : Hp) : Prop := Ex (hid H t) H'
theorem Et.at {t a : Addr} {H H' : Hp} {o : HO} (h : Et t H H') (ha : a ≠ t) (e : H a = some o) : H' a = some o := h a o (by rw [hid_ne ha]; exact e)
theorem Ex.et {t : Addr} {H H' : Hp} (h : Ex H H') : Et t H H' := fun a o e => by
  by_cases ha : a = t
  · rw [ha, hid_same] at e
    cases e
  · rw [hid_ne ha] at e
    exact h a o e
theorem Et.trans {t : Addr} {H H1 H2 : Hp} (h : Et t H H1) (k : Et t H1 H2) : Et t H H2 := fun a o e => by
  by_cases ha : a = t
  · rw [ha, hid_same] at e
    cases e
  · exact k a o (by rw [hid_ne ha]; exact h a o e)
theorem Et.refl {t : Addr} (H : Hp) : Et t H H := Ex.et (Ex.refl H)
theorem Et.updT {t : Addr} {H H' : Hp} {o : HO} (h : Et t H H') : Et t H (upd H' t o) := fun a u e => by
  have ha : a ≠ t := fun z => by rw [z, hid_same] at e; cases e
  rw [upd_ne ha]
  exact h a u e
structure TapeAt (H : Hp) (t l : Addr) : Prop where
  ex : ∃ (ns : List Int) (pl : Nat) (k tot : Int), H t = some (.lst [.ref l, nV pl, .int k, .int tot]) ∧ H l = some (.lst (ns.map V.int))
theorem TapeAt.exx {H H' : Hp} {t l : Addr} (h : TapeAt H t l) (e : Ex H H') : TapeAt H' t l := by
  obtain ⟨ns, pl, k, tot, h1, h2⟩ := h.ex
  exact ⟨ns, pl, k, tot, e _ _ h1, e _ _ h2⟩
theorem ev_int1 {σ : L2.St} {H : Hp} {te : TE} {i : Int} (h : Ev te σ H (.int i)) : Ev (tCB (fun xs H Q => (∃ i, xs = [.int i] ∧ Q (.int i) H) ∨ ∃ k, xs = [.bl k] ∧ Q (.int (if k then 1 else 0)) H) (tCons te tNil)) σ H (.int i) := fun H1 e Q q => h H1 e _ fun H2 e2 => .inl ⟨i, rfl, q H2 e2⟩
theorem ev_abs {σ : L2.St} {H : Hp} {te : TE} {i : Int} (h : Ev te σ H (.int i)) : Ev (tCB (fun xs H Q => ∃ i, xs = [.int i] ∧ Q (.int (if i < 0 then -i else i)) H) (tCons te tNil)) σ H (.int (if i < 0 then -i else i)) := fun H1 e Q q => h H1 e _ fun H2 e2 => ⟨i, rfl, q H2 e2⟩
theorem s_retTape {σ : L2.St} {H : Hp} {ta tz : TE} {D : Ends} {xs : List V} {x y z : V} (h : EvL ta σ H xs) (hz : Ev tz σ H z) (k : ∀ l p H1, H l = none → Ex H H1 → H1 l = some (.lst xs) → H1 p = none → D.rt (.ref p) (upd H1 p (.lst [.ref l, x, y, z]))) :
    tRet (tLst (tCons ta (tCons (tC x) (tCons (tC y) (tCons tz tNil))))) D σ H :=
  h H (Ex.refl H) _ fun l H1 nl e1 hl => hz H1 e1 _ fun H2 e2 => ⟨(by show 4 ≤ sizeLine; decide), fun p hp => k l p H2 nl (e1.trans e2) (e2 _ _ hl) hp⟩
theorem sc_law_tape : FnScope ["_law_script", "_law_total", "_law_cell"] ["_law_script"] (defScope (top 41)) := ⟨rfl, rfl, rfl, by decide +kernel, rfl, by decide +kernel, by decide +kernel⟩
-- slots: 0 _law_script, 1 _law_total, 2 _law_cell

def spTape (K : PySem.W.Frag) : Sp := fun vs H Q _ => ∃ (a : Addr) (ns : List Int), vs = [.ref a] ∧ SqL K H a (ns.map V.int) ∧ ns.length ≤ 63 ∧ ∀ t l H', Ex H H' → H t = none → H l = none → TapeAt H' t l → Q (.ref t) H'
theorem ok_law_tape (T : Txt K mg) : Good P w K mg base CX0 1 "_law_tape" ["_law_script"] (spTape K) := by
  refine Good.of T (j := 27) (i := 41) rfl rfl sc_law_tape (fun _ _ _ _ _ _ us hl => match us, hl with | [_], _ => rfl) (fun vs H Q E h => ?_) (fun cdv A outer s H vs Q E hr h => ?_)
  · obtain ⟨a, ns, rfl, _⟩ := h
    rfl
  · obtain ⟨a, ns, rfl, ha, hz, q⟩ := h
    refine ⟨_, (pss_cons (ps_set (i := 1) sc_law_tape.nd rfl (.inl rfl) pe_int)
(pss_cons (ps_for PassesOwn.never rfl (pi_list (pv 0)) (pg_name (i := 2) sc_law_tape.nd rfl (.inl rfl))
(pss_one (ps_set (i := 1) sc_law_tape.nd rfl (.inl rfl) (pe_op op_mod (pe_callTy call_int1 (by rfl) T.m_int (by decide +kernel) (pa_cons (pe_op op_add (pe_op op_mul (pv 1) pe_int) (pe_callB call_abs (by rfl) T.m_abs (by decide +kernel) (pa_cons (pe_callTy call_int1 (by rfl) T.m_int (by decide +kernel) (pa_cons (pv 2) pa_nil)) pa_nil))) pa_nil)) pe_int))))
(pss_one (ps_ret (pe_lst (pa_cons (pe_callTy call_list_of (by rfl) T.m_list (by decide +kernel) (pa_cons (pv 0) pa_nil)) (pa_cons pe_int (pa_cons pe_int (pa_cons (pv 1) pa_nil))))))))), ?_⟩
    refine s_asg ev_c fun H1 e1 => ?_
    refine s_forL (ev_var rfl) (ex_l e1 ha) (fun i σ' H' => ∃ (tot : Int) (y2 : Option V), σ' = [some (.ref a), some (.int tot), y2] ∧ 0 ≤ tot ∧ tot < 2147483647 ∧ Ex H H') (fun H2 e2 => ⟨7, none, rfl, by decide, by decide, e1.trans e2⟩) (fun i σ' H' _ hW => by obtain ⟨_, _, _, _, _, z⟩ := hW; exact ex_l z ha) (fun i x σ' H2 hx hW => ?_) (fun σ' H2 hW => ?_)
    · obtain ⟨tot, y2, rfl, h0, h1, e2⟩ := hW
      obtain ⟨n, hn, rfl⟩ := map_get hx
      exact s_asg (ev_op (ev_int1 (ev_op (ev_op (ev_var rfl) ev_c (rv_I (.inr ⟨by decide, by decide⟩))) (ev_abs (ev_int1 (ev_var rfl))) rv_I0)) ev_c (rv_I (by show (0 : Int) < 2147483647; decide))) fun H3 e3 => ⟨_, _, rfl, Int.emod_nonneg _ (by decide), Int.emod_lt_of_pos _ (by decide), e2.trans e3⟩
    · obtain ⟨tot, y2, rfl, h0, h1, e2⟩ := hW
      dsimp only
      refine s_retTape (xs := ns.map V.int) (x := .int 0) (y := .int 0) (z := .int tot) (el_list (ev_var rfl) (ex_l e2 ha)) (ev_var rfl) fun l p H3 nl e3 hl hp => ?_
      have e3p : Ex H3 (upd H3 p (.lst [.ref l, .int 0, .int 0, .int tot])) := Ex.new hp
      exact q p l _ ((e2.trans e3).trans e3p) (fresh_back (e2.trans e3) hp) (fresh_back e2 nl) ⟨ns, 0, 0, tot, upd_same, e3p _ _ hl⟩
/-! ### _law_draw -/
theorem sc_law_draw : FnScope ["_law_tape_here", "_law_menu", "_law_place", "_law_number"] ["_law_tape_here", "_law_menu"] (defScope (top 42)) := ⟨rfl, rfl, rfl, by decide +kernel, rfl, by decide +kernel, by decide +kernel⟩
-- slots: 0 _law_tape_here, 1 _law_menu, 2 _law_place, 3 _law_number

def spDraw : Sp := fun vs H Q _ => ∃ (t l : Addr) (m : Nat), vs = [.ref t, nV m] ∧ TapeAt H t l ∧ 1 ≤ m ∧ m ≤ 1000000001 ∧ ∀ (r : Nat) H', Et t H H' → TapeAt H' t l → r < m → Q (nV r) H'
theorem ev_maxN {σ : L2.St} {H : Hp} {ta : TE} {m c : Nat} (ha : Ev ta σ H (nV m)) : Ev (tCB (fun xs H Q => ∃ i j, xs = [.int i, .int j] ∧ Q (.int (if j > i then j else i)) H) (tCons ta (tCons (tC (.int (c : Int))) tNil))) σ H (nV (max m c)) := fun H1 e Q q => ha H1 e _ fun H2 e2 => ⟨(m : Int), (c : Int), rfl, by
  have : (if (c : Int) > (m : Int) then (c : Int) else (m : Int)) = ((max m c : Nat) : Int) := by
    split <;> omega
  rw [this]
  exact q H2 e2⟩
theorem mod_nat {i : Int} {m : Nat} (hm : 1 ≤ m) : ∃ r : Nat, i % ((m : Nat) : Int) = (r : Int) ∧ r < m := by
  have h1 := Int.emod_nonneg i (b := ((m : Nat) : Int)) (by omega)
  have h2 := Int.emod_lt_of_pos i (b := ((m : Nat) : Int)) (by omega)
  exact ⟨(i % ((m : Nat) : Int)).toNat, by omega, by omega⟩
theorem ok_law_draw (T : Txt K mg) : Good P w K mg base CX0 1 "_law_draw" ["_law_tape_here", "_law_menu"] spDraw := by
  refine Good.of T (j := 28) (i := 42) rfl rfl sc_law_draw (fun _ _ _ _ _ _ us hl => match us, hl with | [_, _], _ => rfl) (fun vs H Q E h => ?_) (fun cdv A outer s H vs Q E hr h => ?_)
  · obtain ⟨t, l, m, rfl, _⟩ := h
    rfl
  · obtain ⟨t, l, m, rfl, ht, hm1, hm2, q⟩ := h
    refine ⟨_, (pss_cut (ps_if (pt_cmpR op_eq (pe_ix ix_list (pv 0) pe_int (fun _ _ => rfl)) pe_int (nomark _))
(pss_cons (ps_set (i := 2) sc_law_draw.nd rfl (.inl rfl) (pe_ix ix_list (pv 0) pe_int (fun _ _ => rfl)))
(pss_cons (ps_set (i := 3) sc_law_draw.nd rfl (.inl rfl) pe_int)
(pss_cut (ps_if (pt_cmpR op_lt (pv 2) (pe_callB call_len_seq (by rfl) T.m_len PySem.boot_len (pa_cons (pe_ix ix_list (pv 0) pe_int (fun _ _ => rfl)) pa_nil)) (nomark _))
(pss_one (ps_set (i := 3) sc_law_draw.nd rfl (.inl rfl) (pe_callB call_abs (by rfl) T.m_abs (by decide +kernel) (pa_cons (pe_callTy call_int1 (by rfl) T.m_int (by decide +kernel) (pa_cons (pe_ix ix_list (pe_ix ix_list (pv 0) pe_int (fun _ _ => rfl)) (pv 2) (fun _ _ => rfl)) pa_nil)) pa_nil)))) (pss_cons (ps_asg (pe_op op_mod (pe_callTy call_int1 (by rfl) T.m_int (by decide +kernel) (pa_cons (pe_op op_add (pe_op op_add (pe_op op_mul (pe_ix ix_list (pv 0) pe_int (fun _ _ => rfl)) pe_int) (pv 2)) pe_int) pa_nil)) pe_int) (pg_sub (pv 0) pe_int set_list))
(pss_one (ps_set (i := 3) sc_law_draw.nd rfl (.inl rfl) (pe_ix ix_list (pv 0) pe_int (fun _ _ => rfl))))))
(pss_cons (ps_asg (pe_op op_add (pv 2) pe_int) (pg_sub (pv 0) pe_int set_list))
(pss_cut (ps_if (pt_cmpR op_lt (pv 3) (pe_op op_pow pe_int pe_int) (nomark _))
(pss_cons (ps_set (i := 3) sc_law_draw.nd rfl (.inl rfl) (pe_op op_mod (pe_callTy call_int1 (by rfl) T.m_int (by decide +kernel) (pa_cons (pe_op op_add (pe_op op_add (pe_op op_mul (pv 3) pe_int) (pe_op op_mul (pv 2) pe_int)) pe_int) pa_nil)) pe_int))
(pss_cons (ps_set (i := 3) sc_law_draw.nd rfl (.inl rfl) (pe_op op_mod (pe_callTy call_int1 (by rfl) T.m_int (by decide +kernel) (pa_cons (pe_op op_mul (pv 3) pe_int) pa_nil)) pe_int))
(pss_one (ps_ret (pe_op op_mod (pe_callTy call_int1 (by rfl) T.m_int (by decide +kernel) (pa_cons (pv 3) pa_nil)) (pe_callB (call_max2 rfl) (by rfl) T.m_max (by decide +kernel) (pa_cons (pv 1) (pa_cons pe_int pa_nil)))))))) pss_nil)
(pss_one (ps_asg (pv 3) (pg_sub (pv 0) pe_int set_list)))))))) pss_nil)
(pss_cons (ps_set (i := 3) sc_law_draw.nd rfl (.inl rfl) (pe_ix ix_list (pv 0) pe_int (fun _ _ => rfl)))
(pss_cons (ps_asg (pe_op op_fdiv (pv 3) (pe_callB (call_max2 rfl) (by rfl) T.m_max (by decide +kernel) (pa_cons (pv 1) (pa_cons pe_int pa_nil)))) (pg_sub (pv 0) pe_int set_list))
(pss_one (ps_ret (pe_op op_mod (pe_callTy call_int1 (by rfl) T.m_int (by decide +kernel) (pa_cons (pv 3) pa_nil)) (pe_callB (call_max2 rfl) (by rfl) T.m_max (by decide +kernel) (pa_cons (pv 1) (pa_cons pe_int pa_nil))))))))), ?_⟩
    obtain ⟨ns, pl, k, tot, hT, hl⟩ := ht.ex
    have hlt : l ≠ t := fun z => by
      rw [z, hT] at hl
      cases ns with
      | nil => cases hl
      | cons a r =>
        have := Option.some.inj hl
        injection this with this
        injection this with h1 _
        cases h1
    -- the two ends
    have last : ∀ (σ : L2.St) (H' : Hp) (i : Int), σ[1]? = some (some (nV m)) → σ[3]? = some (some (.int i)) → Et t H H' → TapeAt H' t l →
        tRet (tOp (rI (fun _ j => 0 < j) fun i j => .int (i % j)) (tCB (fun xs H Q => (∃ i, xs = [.int i] ∧ Q (.int i) H) ∨ ∃ k, xs = [.bl k] ∧ Q (.int (if k then 1 else 0)) H) (tCons (tVar 3) tNil)) (tCB (fun xs H Q => ∃ i j, xs = [.int i, .int j] ∧ Q (.int (if j > i then j else i)) H) (tCons (tVar 1) (tCons (tC (.int 1)) tNil)))) { nx := fun _ H' => Q .non H', rt := Q } σ H' := fun σ H' i h1 h3 eH hTT => by
      obtain ⟨r, hr1, hr2⟩ := mod_nat (i := i) (m := max m 1) (by omega)
      refine s_ret (v := nV r) (ev_is (ev_op (ev_int1 (ev_var h3)) (ev_maxN (c := 1) (ev_var h1)) (rv_I (by show (0 : Int) < ((max m 1 : Nat) : Int); omega))) (by show V.int _ = V.int _; rw [hr1])) fun H2 e2 => q r H2 (eH.trans (Ex.et e2)) (hTT.exx e2) (by omega)
    refine ⟨fun σ' H' => ∃ (y2 y3 : Option V), σ' = [some (.ref t), some (nV m), y2, y3] ∧ Et t H H' ∧ TapeAt H' t l, ?_, fun σ' H' hW => ?_⟩
    · refine s_if (b := decide (V.int k = V.int 0)) (et_test (ev_op (ev_ixL (i := 2) (ev_var rfl) ev_c hT rfl) ev_c (rv_eq rfl))) (fun hb H1 e1 => ?_) (fun hb H1 e1 => ⟨none, none, rfl, Ex.et e1, ht.exx e1⟩)
      refine s_asg (ev_ixL (i := 1) (ev_var rfl) ev_c (e1 _ _ hT) rfl) fun H2 e2 => ?_
      refine s_asg ev_c fun H3 e3 => ?_
      have e13 := e1.trans (e2.trans e3)
      have hT3 := e13 _ _ hT
      have hl3 := e13 _ _ hl
      refine ⟨fun σ' H' => ∃ (nn tot' : Int), σ' = [some (.ref t), some (nV m), some (nV pl), some (.int nn)] ∧ Et t H H' ∧ H' t = some (.lst [.ref l, nV pl, .int k, .int tot']) ∧ H' l = some (.lst (ns.map V.int)), ?_, fun σ' H4 hW => ?_⟩
      · refine s_if (b := decide ((pl : Int) < ((ns.length : Nat) : Int))) (et_test (ev_op (ev_var rfl) (ev_is (ev_lenL (ev_ixL (i := 0) (ev_var rfl) ev_c hT3 rfl) hl3) (by rw [List.length_map] <;> rfl)) rv_I0)) (fun hb2 H4 e4 => ?_) (fun hb2 H4 e4 => ?_)
        · have hpl : pl < ns.length := by
            have := of_decide_eq_true hb2
            omega
          obtain ⟨n0, hn0⟩ : ∃ n0, ns[pl]? = some n0 := ⟨_, List.getElem?_eq_getElem hpl⟩
          refine s_asg (ev_abs (ev_int1 (ev_ixL (i := pl) (ev_ixL (i := 0) (ev_var rfl) ev_c (e4 _ _ hT3) rfl) (ev_var rfl) (e4 _ _ hl3) (get_map hn0)))) fun H5 e5 => ⟨_, tot, rfl, Ex.et (e13.trans (e4.trans e5)), e5 _ _ (e4 _ _ hT3), e5 _ _ (e4 _ _ hl3)⟩
        · refine s_setL (j := 3) (e4 _ _ hT3) (ev_op (ev_int1 (ev_op (ev_op (ev_op (ev_ixL (i := 3) (ev_var rfl) ev_c (e4 _ _ hT3) rfl) ev_c (rv_I (.inr ⟨by decide, by decide⟩))) (ev_var rfl) rv_I0) ev_c rv_I0)) ev_c (rv_I (by show (0 : Int) < 2147483647; decide))) (ev_var rfl) ev_c (by show 3 < 4; decide) fun H5 e5 => ?_
          have hup : (upd H5 t (.lst ([V.ref l, nV pl, .int k, .int tot].set 3 (.int ((tot * 48271 + (pl : Int) + 1) % 2147483647))))) t = some (.lst [.ref l, nV pl, .int k, .int ((tot * 48271 + (pl : Int) + 1) % 2147483647)]) := upd_same
          have hll : (upd H5 t (.lst ([V.ref l, nV pl, .int k, .int tot].set 3 (.int ((tot * 48271 + (pl : Int) + 1) % 2147483647))))) l = some (.lst (ns.map V.int)) := by
            rw [upd_ne hlt]
            exact e5 _ _ (e4 _ _ hl3)
          have eE : Et t H (upd H5 t (.lst ([V.ref l, nV pl, .int k, .int tot].set 3 (.int ((tot * 48271 + (pl : Int) + 1) % 2147483647))))) := Et.updT (Ex.et (e13.trans (e4.trans e5)))
          refine s_asg (ev_ixL (i := 3) (ev_var rfl) ev_c hup rfl) fun H6 e6 => ⟨_, _, rfl, eE.trans (Ex.et e6), e6 _ _ hup, e6 _ _ hll⟩
      · obtain ⟨nn, tot', rfl, eH, hT4, hl4⟩ := hW
        refine s_setL (j := 1) hT4 (ev_op (ev_var rfl) ev_c rv_I0) (ev_var rfl) ev_c (by show 1 < 4; decide) fun H5 e5 => ?_
        have i1 : V.int ((pl : Int) + 1) = nV (pl + 1) := by show V.int _ = V.int _; rw [Int.natCast_succ]
        rw [i1]
        have hup : (upd H5 t (.lst ([V.ref l, nV pl, .int k, .int tot'].set 1 (nV (pl + 1))))) t = some (.lst [.ref l, nV (pl + 1), .int k, .int tot']) := upd_same
        have hll : (upd H5 t (.lst ([V.ref l, nV pl, .int k, .int tot'].set 1 (nV (pl + 1))))) l = some (.lst (ns.map V.int)) := by
          rw [upd_ne hlt]
          exact e5 _ _ hl4
        have eE : Et t H (upd H5 t (.lst ([V.ref l, nV pl, .int k, .int tot'].set 1 (nV (pl + 1))))) := Et.updT (eH.trans (Ex.et e5))
        generalize upd H5 t (.lst ([V.ref l, nV pl, .int k, .int tot'].set 1 (nV (pl + 1)))) = H6 at *
        have pw : Ev (tOp (rI CPow fun i j => .int (i ^ j.toNat)) (tC (.int 10)) (tC (.int 18))) [some (.ref t), some (nV m), some (nV pl), some (.int nn)] H6 (.int (10 ^ 18)) := ev_is (ev_op ev_c ev_c (rv_I ⟨by decide, by decide, by decide⟩)) (by rfl)
        refine ⟨fun σ' H' => σ' = [some (.ref t), some (nV m), some (nV pl), some (.int nn)] ∧ Et t H H' ∧ H' t = some (.lst [.ref l, nV (pl + 1), .int k, .int tot']) ∧ H' l = some (.lst (ns.map V.int)), ?_, fun σ' H7 hW => ?_⟩
        · refine s_if (b := decide (nn < 10 ^ 18)) (et_test (ev_op (ev_var rfl) pw rv_I0)) (fun hb3 H7 e7 => ?_) (fun hb3 H7 e7 => ⟨rfl, eE.trans (Ex.et e7), e7 _ _ hup, e7 _ _ hll⟩)
          refine s_asg (ev_op (ev_int1 (ev_op (ev_op (ev_op (ev_var rfl) ev_c (rv_I (.inr ⟨by decide, by decide⟩))) (ev_op (ev_var rfl) ev_c (rv_I (.inr ⟨by decide, by decide⟩))) rv_I0) ev_c rv_I0)) ev_c (rv_I (by show (0 : Int) < 2147483647; decide))) fun H8 e8 => ?_
          refine s_asg (ev_op (ev_int1 (ev_op (ev_var rfl) ev_c (rv_I (.inr ⟨by decide, by decide⟩)))) ev_c (rv_I (by show (0 : Int) < 2147483629; decide))) fun H9 e9 => ?_
          have e79 := e7.trans (e8.trans e9)
          exact last _ _ _ rfl rfl (eE.trans (Ex.et e79)) ⟨ns, pl + 1, k, tot', e79 _ _ hup, e79 _ _ hll⟩
        · obtain ⟨rfl, eH7, hT7, hl7⟩ := hW
          refine s_setL (j := 2) hT7 (ev_var rfl) (ev_var rfl) ev_c (by show 2 < 4; decide) fun H8 e8 => ⟨_, _, rfl, Et.updT (eH7.trans (Ex.et e8)), ns, pl + 1, nn, tot', upd_same, ?_⟩
          rw [upd_ne hlt]
          exact e8 _ _ hl7
    · obtain ⟨y2, y3, rfl, eH, hTT⟩ := hW
      obtain ⟨ns, pl, k, tot, hT, hl⟩ := hTT.ex
      have hlt : l ≠ t := fun z => by
        rw [z, hT] at hl
        cases ns with
        | nil => cases hl
        | cons a r =>
          have := Option.some.inj hl
          injection this with this
          injection this with h1 _
          cases h1
      refine s_asg (ev_ixL (i := 2) (ev_var rfl) ev_c hT rfl) fun H1 e1 => ?_
      refine s_setL (j := 2) (e1 _ _ hT) (ev_op (ev_var rfl) (ev_maxN (c := 2) (ev_var rfl)) (rv_I ⟨by show (0 : Int) < ((max m 2 : Nat) : Int); omega, by show ((max m 2 : Nat) : Int) < 1073741824; omega⟩)) (ev_var rfl) ev_c (by show 2 < 4; decide) fun H2 e2 => ?_
      exact last _ _ _ rfl rfl (Et.updT (eH.trans (Ex.et (e1.trans e2)))) ⟨ns, pl, _, tot, upd_same, by rw [upd_ne hlt]; exact e2 _ _ (e1 _ _ hl)⟩
end
end S
end

section
set_option Elab.async false
set_option linter.all false
set_option autoImplicit false
set_option maxRecDepth 100000
set_option maxHeartbeats 4000000
namespace S
open PySem PySem.Spec PyProof.Rows L2 Evl
section
variable {P : Program} {w : World} {K : PySem.W.Frag} {mg : Str → Option Value} {base : Heap}
/-! ### draws in expressions and tests -/
theorem td_draw {σ : L2.St} {H : Hp} {ta tb : TE} {t l : Addr} {m : Nat} {Q : VK} (ha : Ev ta σ H (.ref t)) (hb : Ev tb σ H (nV m)) (hT : TapeAt H t l) (h1 : 1 ≤ m) (h2 : m ≤ 1000000001) (k : ∀ (r : Nat) H', Et t H H' → TapeAt H' t l → r < m → Q (nV r) H') :
    tCall spDraw [] E0 (tCons ta (tCons tb tNil)) σ H Q := (ea_cons ha (ea_cons hb ea_nil)) H (Ex.refl H) _ fun H1 e1 => ⟨t, l, m, rfl, hT.exx e1, h1, h2, fun r H' e' hT' hr => k r H' ((Ex.et e1).trans e') hT' hr⟩
theorem s_asgD {σ : L2.St} {H : Hp} {ta tb : TE} {D : Ends} {t l : Addr} {m i : Nat} (ha : Ev ta σ H (.ref t)) (hb : Ev tb σ H (nV m)) (hT : TapeAt H t l) (h1 : 1 ≤ m) (h2 : m ≤ 1000000001) (k : ∀ (r : Nat) H', Et t H H' → TapeAt H' t l → r < m → D.nx (σ.set i (some (nV r))) H') :
    tAsg (tCall spDraw [] E0 (tCons ta (tCons tb tNil))) (gName i) D σ H := td_draw ha hb hT h1 h2 k
theorem tt_drawEq {σ : L2.St} {H : Hp} {ta tb : TE} {t l : Addr} {m : Nat} {Q : Bool → Hp → Prop} (ha : Ev ta σ H (.ref t)) (hb : Ev tb σ H (nV m)) (hT : TapeAt H t l) (h1 : 1 ≤ m) (h2 : m ≤ 1000000001) (k : ∀ b H', Et t H H' → TapeAt H' t l → Q b H') :
    tTest (tOp rEq (tCall spDraw [] E0 (tCons ta (tCons tb tNil))) (tC (.int 0))) σ H Q := td_draw ha hb hT h1 h2 fun r H' e h _ => ⟨rfl, _, rfl, k _ H' e h⟩
theorem tt_drawGt {σ : L2.St} {H : Hp} {ta tb : TE} {t l : Addr} {m : Nat} {Q : Bool → Hp → Prop} (ha : Ev ta σ H (.ref t)) (hb : Ev tb σ H (nV m)) (hT : TapeAt H t l) (h1 : 1 ≤ m) (h2 : m ≤ 1000000001) (k : ∀ b H', Et t H H' → TapeAt H' t l → Q b H') :
    tTest (tOp (rI0 fun i j => .bl (decide (j < i))) (tCall spDraw [] E0 (tCons ta (tCons tb tNil))) (tC (.int 0))) σ H Q := td_draw ha hb hT h1 h2 fun r H' e h _ => ⟨_, _, rfl, rfl, _, rfl, k _ H' e h⟩
theorem s_ifQ {σ : L2.St} {H : Hp} {tt : TT} {tu tw : TS} {D : Ends} (h : tt σ H fun b H1 => if b = true then tu D σ H1 else tw D σ H1) : tIfS tt tu tw D σ H := h
theorem ite_any {b : Bool} {p q : Prop} (h1 : p) (h2 : q) : if b = true then p else q := by
  split
  · exact h1
  · exact h2
theorem tt_and {σ : L2.St} {H : Hp} {tt u : TT} {a : Bool} {Q : Bool → Hp → Prop} (h : EvT tt σ H a) (h1 : a = true → ∀ H1, Ex H H1 → u σ H1 Q) (h2 : a = false → ∀ H1, Ex H H1 → Q false H1) : tAnd tt u σ H Q := h H (Ex.refl H) _ fun H1 e1 => by
  cases a with
  | true => exact h1 rfl H1 e1
  | false => exact h2 rfl H1 e1
/-! ### _law_price -/
theorem sc_law_price : FnScope ["_law_tape_here", "_law_mode", "_law_low", "_law_price_here"] ["_law_tape_here", "_law_mode", "_law_low"] (defScope (top 45)) := ⟨rfl, rfl, rfl, by decide +kernel, rfl, by decide +kernel, by decide +kernel⟩
-- slots: 0 _law_tape_here, 1 _law_mode, 2 _law_low, 3 _law_price_here

def spLPrice : Sp := fun vs H Q _ => ∃ (t l : Addr) (md : Nat), vs = [.ref t, nV md, .int 0] ∧ TapeAt H t l ∧ md < 4 ∧ ∀ (o : Option Nat) H', Et t H H' → TapeAt H' t l → (∀ p, o = some p → p ≤ 1000000000) → Q (pV o) H'
theorem ok_law_price (T : Txt K mg) : Good P w K mg base CX0 2 "_law_price" ["_law_tape_here", "_law_mode", "_law_low"] spLPrice := by
  have G_law_draw : Good P w K mg base CX0 1 "_law_draw" ["_law_tape_here", "_law_menu"] spDraw := ok_law_draw T
  refine Good.of T (j := 31) (i := 45) rfl rfl sc_law_price (fun _ _ _ _ _ _ us hl => match us, hl with | [_, _, _], _ => rfl) (fun vs H Q E h => ?_) (fun cdv A outer s H vs Q E hr h => ?_)
  · obtain ⟨t, l, md, rfl, _⟩ := h
    rfl
  · obtain ⟨t, l, md, rfl, hT, hmd, q⟩ := h
    refine ⟨_, (pss_cut (ps_if (pt_cmpR op_eq (pe_c G_law_draw hr (pa_cons (pv 0) (pa_cons pe_int pa_nil))) pe_int (nomark _))
(pss_one (ps_ret pe_non)) pss_nil)
(pss_cons (ps_set (i := 3) sc_law_price.nd rfl (.inl rfl) (pe_c G_law_draw hr (pa_cons (pv 0) (pa_cons (pe_ix ix_list (pe_lst (pa_cons pe_int (pa_cons pe_int (pa_cons pe_int (pa_cons (pe_op op_add (pe_op op_pow pe_int pe_int) pe_int) pa_nil))))) (pv 1) (fun _ _ => rfl)) pa_nil))))
(pss_cut (ps_if (PW.pt (pw_and (pt_cmpR op_eq (pv 2) pe_int (nomark _)) (pw_and1 (pt_cmpR op_eq (pe_c G_law_draw hr (pa_cons (pv 0) (pa_cons pe_int pa_nil))) pe_int (nomark _)))))
(pss_one (ps_set (i := 3) sc_law_price.nd rfl (.inl rfl) (pe_un un_neg (pv 3)))) pss_nil)
(pss_one (ps_ret (pv 3)))))), ?_⟩
    refine ⟨fun σ' H' => σ' = [some (.ref t), some (nV md), some (.int 0), none] ∧ Et t H H' ∧ TapeAt H' t l, ?_, fun σ' H1 hW => ?_⟩
    · refine s_ifQ (tt_drawEq (m := 8) (ev_var rfl) ev_c hT (by decide) (by decide) fun b H1 e1 hT1 => ?_)
      refine ite_any ?_ ⟨rfl, e1, hT1⟩
      exact s_ret ev_c fun H2 e2 => q none H2 (e1.trans (Ex.et e2)) (hT1.exx e2) (fun p z => by cases z)
    · obtain ⟨rfl, e1, hT1⟩ := hW
      obtain ⟨m, hm1, hm2, hm⟩ : ∃ m : Nat, 1 ≤ m ∧ m ≤ 1000000001 ∧ ([V.int 1, .int 2, .int 10, .int (10 ^ 9 + 1)])[md]? = some (nV m) := by
        have : md = 0 ∨ md = 1 ∨ md = 2 ∨ md = 3 := by omega
        rcases this with rfl | rfl | rfl | rfl
        · exact ⟨1, by decide, by decide, rfl⟩
        · exact ⟨2, by decide, by decide, rfl⟩
        · exact ⟨10, by decide, by decide, rfl⟩
        · exact ⟨1000000001, by decide, by decide, rfl⟩
      have pw : ∀ {σ : L2.St} {H' : Hp}, Ev (tOp (rI CPow fun i j => .int (i ^ j.toNat)) (tC (.int 10)) (tC (.int 9))) σ H' (.int (10 ^ 9)) := ev_is (ev_op ev_c ev_c (rv_I ⟨by decide, by decide, by decide⟩)) (by rfl)
      refine s_asgD (m := m) (ev_var rfl) (ev_opL1 (el_lst (ea_cons ev_c (ea_cons ev_c (ea_cons ev_c (ea_cons (ev_op pw ev_c rv_I0) ea_nil)))) (by show 4 ≤ 100000; decide)) (fun _ _ => ev_var rfl) fun p H2 hp e2 => rv_ixL (SqL.of hp) (atI_nat hm)) hT1 hm1 hm2 fun r H2 e2 hT2 hr => ?_
      refine ⟨fun σ' H' => σ' = [some (.ref t), some (nV md), some (.int 0), some (nV r)] ∧ Et t H H' ∧ TapeAt H' t l, ?_, fun σ' H3 hW => ?_⟩
      · refine s_ifQ (tt_and (a := false) (et_test (ev_op (ev_var rfl) ev_c (rv_eq rfl))) (fun z => nomatch z) fun _ H3 e3 => ⟨rfl, e1.trans (e2.trans (Ex.et e3)), hT2.exx e3⟩)
      · obtain ⟨rfl, e3, hT3⟩ := hW
        exact s_ret (v := pV (some r)) (ev_var rfl) fun H4 e4 => q (some r) H4 (e3.trans (Ex.et e4)) (hT3.exx e4) (fun p z => by
          have := Option.some.inj z
          omega)
end
end S
end

section
set_option Elab.async false
set_option linter.all false
set_option autoImplicit false
set_option maxRecDepth 100000
set_option maxHeartbeats 4000000
namespace S
open PySem PySem.Spec PyProof.Rows L2 Evl
/-! ### the rows of a family that is being drawn -/
structure VOk (c : Nat) (x : Var) : Prop where
  pl : x.plug < c
  s3 : x.slots.length ≤ 3
  sl : ∀ s ∈ x.slots, s < c
  pr : ∀ p, x.price = some p → p ≤ 1000000000
abbrev Row := Addr × Addr × Var
structure RowsAt (H : Hp) (b : Addr) (c : Nat) (ls : List Row) : Prop where
  h : H b = some (.lst (ls.map fun q => V.ref q.1))
  each : ∀ q ∈ ls, VarAt H q.1 q.2.1 q.2.2
  ok : ∀ q ∈ ls, VOk c q.2.2
theorem TapeAt.ntup {H : Hp} {t l a : Addr} {xs : List V} (h : TapeAt H t l) (e : H a = some (.tup xs)) : a ≠ t := fun z => by
  obtain ⟨ns, pl, k, tot, h1, _⟩ := h.ex
  rw [z, h1] at e
  cases e
theorem TapeAt.nl {H : Hp} {t l : Addr} (h : TapeAt H t l) : l ≠ t := fun z => by
  obtain ⟨ns, pl, k, tot, h1, h2⟩ := h.ex
  rw [z, h1] at h2
  cases ns with
  | nil => cases h2
  | cons a r =>
    have := Option.some.inj h2
    injection this with this
    injection this with h1 _
    cases h1
/-- what is new in a frame that hides t is neither t, nor l -/
theorem TapeAt.new {H H' : Hp} {t l b : Addr} (h : TapeAt H t l) (h' : TapeAt H' t l) (e : Et t H H') (nb : H' b = none) : b ≠ t ∧ b ≠ l ∧ hid H t b = none := by
  refine ⟨fun z => ?_, fun z => ?_, fresh_back e nb⟩
  · obtain ⟨ns, pl, k, tot, h1, _⟩ := h'.ex
    rw [← z, nb] at h1
    cases h1
  · obtain ⟨ns, pl, k, tot, _, h2⟩ := h'.ex
    rw [← z, nb] at h2
    cases h2
theorem VarAt.et {H H' : Hp} {t l a s : Addr} {x : Var} (v : VarAt H a s x) (hT : TapeAt H t l) (e : Et t H H') : VarAt H' a s x := ⟨e.at (hT.ntup v.h) v.h, e.at (hT.ntup v.hs) v.hs⟩
theorem RowsAt.et {H H' : Hp} {t l b : Addr} {c : Nat} {ls : List Row} (h : RowsAt H b c ls) (hT : TapeAt H t l) (hb : b ≠ t) (e : Et t H H') : RowsAt H' b c ls := ⟨e.at hb h.h, fun q hq => (h.each q hq).et hT e, h.ok⟩
theorem RowsAt.ex {H H' : Hp} {b : Addr} {c : Nat} {ls : List Row} (h : RowsAt H b c ls) (e : Ex H H') : RowsAt H' b c ls := ⟨e _ _ h.h, fun q hq => (h.each q hq).ex e, h.ok⟩
theorem VarAt.updL {H : Hp} {a s b : Addr} {x : Var} {xs ys : List V} (v : VarAt H a s x) (hb : H b = some (.lst xs)) : VarAt (upd H b (.lst ys)) a s x := by
  have h1 : ∀ {d : Addr} {zs : List V}, H d = some (.tup zs) → (upd H b (.lst ys)) d = some (.tup zs) := fun {d zs} h => by
    rw [upd_ne (fun z => by rw [z, hb] at h; cases h)]
    exact h
  exact ⟨h1 v.h, h1 v.hs⟩
theorem TapeAt.updL {H : Hp} {t l b : Addr} {ys : List V} (h : TapeAt H t l) (hb : b ≠ t) (hn : b ≠ l) : TapeAt (upd H b (.lst ys)) t l := by
  obtain ⟨ns, pl, k, tot, h1, h2⟩ := h.ex
  exact ⟨ns, pl, k, tot, by rw [upd_ne (fun z => hb z.symm)]; exact h1, by rw [upd_ne (fun z => hn z.symm)]; exact h2⟩
section
variable {P : Program} {w : World} {K : PySem.W.Frag} {mg : Str → Option Value} {base : Heap}
theorem td_price {σ : L2.St} {H : Hp} {ta tb tc : TE} {t l : Addr} {md : Nat} {Q : VK} (ha : Ev ta σ H (.ref t)) (hb : Ev tb σ H (nV md)) (hc : Ev tc σ H (.int 0)) (hT : TapeAt H t l) (hmd : md < 4)
    (k : ∀ (o : Option Nat) H', Et t H H' → TapeAt H' t l → (∀ p, o = some p → p ≤ 1000000000) → Q (pV o) H') : tCall spLPrice [] E0 (tCons ta (tCons tb (tCons tc tNil))) σ H Q :=
  (ea_cons ha (ea_cons hb (ea_cons hc ea_nil))) H (Ex.refl H) _ fun H1 e1 => ⟨t, l, md, rfl, hT.exx e1, hmd, fun o H' e' hT' ho => k o H' ((Ex.et e1).trans e') hT' ho⟩
theorem td_row {σ : L2.St} {H : Hp} {tp tsl ta tb tc : TE} {t l : Addr} {plug md : Nat} {slots : List Nat} {Q : VK} (hp : Ev tp σ H (nV plug)) (hs : ET tsl σ H (slots.map nV)) (ha : ∀ H1, Ev ta σ H1 (.ref t)) (hb : ∀ H1, Ev tb σ H1 (nV md)) (hc : ∀ H1, Ev tc σ H1 (.int 0)) (hT : TapeAt H t l) (hmd : md < 4)
    (k : ∀ p sa o H', Et t H H' → TapeAt H' t l → VarAt H' p sa ⟨plug, slots, o⟩ → (∀ q, o = some q → q ≤ 1000000000) → Q (.ref p) H') :
    tTup (tCons tp (tCons tsl (tCons (tCall spLPrice [] E0 (tCons ta (tCons tb (tCons tc tNil)))) tNil))) σ H Q :=
  hp H (Ex.refl H) _ fun H1 e1 => hs H1 e1 _ fun sa H2 e2 hsa => td_price (ha H2) (hb H2) (hc H2) (hT.exx (e1.trans e2)) hmd fun o H4 e4 hT4 ho => by
    refine ⟨by show 3 ≤ sizeLine; decide, fun p hp => ?_⟩
    have e5 : Ex H4 (upd H4 p (.tup [nV plug, .ref sa, pV o])) := Ex.new hp
    have hsa4 := e4.at ((hT.exx (e1.trans e2)).ntup hsa) hsa
    exact k p sa o _ ((Ex.et (e1.trans e2)).trans (e4.trans (Ex.et e5))) (hT4.exx e5) ⟨upd_same, e5 _ _ hsa4⟩ ho
theorem s_asgR {σ : L2.St} {H : Hp} {tp tsl ta tb tc : TE} {D : Ends} {i : Nat} {t l : Addr} {plug md : Nat} {slots : List Nat} (hp : Ev tp σ H (nV plug)) (hs : ET tsl σ H (slots.map nV)) (ha : ∀ H1, Ev ta σ H1 (.ref t)) (hb : ∀ H1, Ev tb σ H1 (nV md)) (hc : ∀ H1, Ev tc σ H1 (.int 0)) (hT : TapeAt H t l) (hmd : md < 4)
    (k : ∀ p sa o H', Et t H H' → TapeAt H' t l → VarAt H' p sa ⟨plug, slots, o⟩ → (∀ q, o = some q → q ≤ 1000000000) → D.nx (σ.set i (some (.ref p))) H') :
    tAsg (tTup (tCons tp (tCons tsl (tCons (tCall spLPrice [] E0 (tCons ta (tCons tb (tCons tc tNil)))) tNil)))) (gName i) D σ H := td_row hp hs ha hb hc hT hmd k
theorem s_pick {σ : L2.St} {H : Hp} {tv ta tb : TE} {D : Ends} {i : Nat} {t l b : Addr} {xs : List V} (hv : Ev tv σ H (.ref b)) (hx : H b = some (.lst xs)) (hbt : b ≠ t) (ha : ∀ H1, Ev ta σ H1 (.ref t)) (hb : ∀ H1, Ex H H1 → Ev tb σ H1 (nV xs.length)) (hT : TapeAt H t l) (h1 : 1 ≤ xs.length) (h2 : xs.length ≤ 1000)
    (k : ∀ (r : Nat) v H', Et t H H' → TapeAt H' t l → xs[r]? = some v → D.nx (σ.set i (some v)) H') : tAsg (tOp (rIxL K) tv (tCall spDraw [] E0 (tCons ta (tCons tb tNil)))) (gName i) D σ H :=
  hv H (Ex.refl H) _ fun H1 e1 => td_draw (ha H1) (hb H1 e1) (hT.exx e1) h1 (by omega) fun r H2 e2 hT2 hr => by
    have hc : xs[r]? = some xs[r] := List.getElem?_eq_getElem hr
    exact ⟨b, _, (r : Int), xs[r], rfl, rfl, SqL.of (e2.at hbt (e1 _ _ hx)), atI_nat hc, k r xs[r] H2 ((Ex.et e1).trans e2) hT2 hc⟩
theorem s_asgD1 {σ : L2.St} {H : Hp} {ta tb : TE} {D : Ends} {t l : Addr} {m i : Nat} (ha : Ev ta σ H (.ref t)) (hb : Ev tb σ H (nV m)) (hT : TapeAt H t l) (h1 : 1 ≤ m) (h2 : m ≤ 1000000001) (k : ∀ (r : Nat) H', Et t H H' → TapeAt H' t l → r < m → D.nx (σ.set i (some (nV (1 + r)))) H') :
    tAsg (tOp (rI0 fun i j => .int (i + j)) (tC (.int 1)) (tCall spDraw [] E0 (tCons ta (tCons tb tNil)))) (gName i) D σ H := td_draw ha hb hT h1 h2 fun r H' e h hr => ⟨1, (r : Int), rfl, rfl, by
  show D.nx (σ.set i (some (V.int ((1 : Int) + (r : Int))))) H'
  have : (1 : Int) + (r : Int) = ((1 + r : Nat) : Int) := by omega
  rw [this]
  exact k r H' e h hr⟩
theorem s_forRX {σ : L2.St} {H : Hp} {te : TE} {tu : TS} {D : Ends} {j : Nat} {P' : Nat → Hp → Prop} (h : ∀ Q : VK, (∀ (n : Nat) H1, P' n H1 → Q (nV n) H1) → te σ H Q)
    (k : ∀ (n : Nat) H1, P' n H1 → n ≤ 100000 ∧ ∃ Pv : Nat → L2.St → Hp → Prop, Pv 0 σ H1 ∧ (∀ i σ' H', i < n → Pv i σ' H' → tu { D with nx := Pv (i + 1), ct := Pv (i + 1), bk := D.nx } (σ'.set j (some (nV i))) H') ∧ (∀ σ' H', Pv n σ' H' → D.nx σ' H')) : tFor (iRng1 (tCons te tNil)) (gName j) tu D σ H :=
  h _ fun n H1 hp => by
    obtain ⟨hn, Pv, h0, hs, hd⟩ := k n H1 hp
    refine ⟨(n : Int), rfl, by omega, by omega, for_range (lo := 0) (n := (n : Int).toNat) Pv h0 (fun i σ' H' hi p => ?_) (fun σ' H' p => ?_)⟩
    · rw [Int.toNat_natCast] at hi
      have e0 : (0 : Int) + (i : Int) = (i : Int) := Int.zero_add _
      show tu { D with nx := Pv (i + 1), ct := Pv (i + 1), bk := D.nx } (σ'.set j (some (.int ((0 : Int) + (i : Int))))) H'
      rw [e0]
      exact hs i σ' H' hi p
    · rw [Int.toNat_natCast] at p
      exact hd σ' H' p
/-- [..][draw] -/
theorem td_menu {σ : L2.St} {H : Hp} {tl ta tb : TE} {t l : Addr} {cs : List Nat} {Q : VK} (hl : EvL tl σ H (cs.map nV)) (ha : ∀ H1, Ev ta σ H1 (.ref t)) (hb : ∀ H1, Ev tb σ H1 (nV cs.length)) (hT : TapeAt H t l) (h1 : 1 ≤ cs.length) (h2 : cs.length ≤ 1000000001)
    (k : ∀ (r c : Nat) H', Et t H H' → TapeAt H' t l → cs[r]? = some c → Q (nV c) H') : tOp (rIxL K) tl (tCall spDraw [] E0 (tCons ta (tCons tb tNil))) σ H Q :=
  hl H (Ex.refl H) _ fun p H1 np e1 hp => td_draw (ha H1) (hb H1) (hT.exx e1) h1 h2 fun r H2 e2 hT2 hr => by
    have hpt : p ≠ t := fun z => by
      obtain ⟨ns, pl, k, tot, h3, _⟩ := hT.ex
      rw [← z, np] at h3
      cases h3
    have hc : cs[r]? = some cs[r] := List.getElem?_eq_getElem hr
    exact ⟨p, _, (r : Int), nV cs[r], rfl, rfl, SqL.of (e2.at hpt hp), atI_nat (get_map hc), k r cs[r] H2 ((Ex.et e1).trans e2) hT2 hc⟩
theorem s_insR {σ : L2.St} {H : Hp} {tl ta tb tp tsl ta2 tb2 tc2 : TE} {D : Ends} {t l b : Addr} {c m plug md : Nat} {ls : List Row} (hl : Ev tl σ H (.ref b)) (hR : RowsAt H b c ls) (hbt : b ≠ t) (hT : TapeAt H t l) (ha : ∀ H1, Ev ta σ H1 (.ref t)) (hb : Ev tb σ H (nV m)) (h1 : 1 ≤ m) (h2 : m ≤ 1000) (hz : ls.length ≤ 1000)
    (hp : ∀ H1, Ev tp σ H1 (nV plug)) (hs : ∀ H1, ET tsl σ H1 (([] : List Nat).map nV)) (ha2 : ∀ H1, Ev ta2 σ H1 (.ref t)) (hb2 : ∀ H1, Ev tb2 σ H1 (nV md)) (hc2 : ∀ H1, Ev tc2 σ H1 (.int 0)) (hmd : md < 4) (hpc : plug < c)
    (k : ∀ (ls' : List Row) H3, Et t H H3 → TapeAt H3 t l → RowsAt (upd H3 b (.lst (ls'.map fun q : Row => V.ref q.1))) b c ls' → ls'.length = ls.length + 1 → D.nx σ (upd H3 b (.lst (ls'.map fun q : Row => V.ref q.1)))) :
    tDrop (tBM K "list" (fun x vs H Q => ∃ (l : Addr) (xs : List V) (i : Int) (y : V), x = .ref l ∧ vs = [.int i, y] ∧ H l = some (.lst xs) ∧ xs.length < sizeLine ∧ 0 ≤ i ∧ i < 2 ^ 63 ∧ Q .non (upd H l (.lst (xs.take i.toNat ++ [y] ++ xs.drop i.toNat)))) tl
      (tCons (tCall spDraw [] E0 (tCons ta (tCons tb tNil))) (tCons (tTup (tCons tp (tCons tsl (tCons (tCall spLPrice [] E0 (tCons ta2 (tCons tb2 (tCons tc2 tNil)))) tNil)))) tNil))) D σ H :=
  hl H (Ex.refl H) _ fun H1 e1 => ⟨Or.inl ⟨rfl, _, sq_of (e1 _ _ hR.h)⟩, td_draw (ha H1) (hb.mono e1) (hT.exx e1) h1 (by omega) fun r H2 e2 hT2 hr => td_row (hp H2) (hs H2) ha2 hb2 hc2 hT2 hmd fun p sa o H3 e3 hT3 hv ho => by
    have e13 : Et t H H3 := (Ex.et e1).trans (e2.trans e3)
    have hR3 := hR.et hT hbt e13
    refine ⟨b, _, (r : Int), .ref p, rfl, rfl, hR3.h, by rw [List.length_map]; exact sz_lt (by omega), by omega, by omega, ?_⟩
    rw [Int.toNat_natCast]
    have el : (ls.map fun q => V.ref q.1).take r ++ [V.ref p] ++ (ls.map fun q => V.ref q.1).drop r = ((ls.take r ++ [((p, sa, ⟨plug, [], o⟩) : Row)] ++ ls.drop r).map fun q : Row => V.ref q.1) := by
      rw [List.map_append, List.map_append, List.map_take, List.map_drop] <;> rfl
    rw [el]
    have hmem : ∀ q ∈ ls.take r ++ [((p, sa, ⟨plug, [], o⟩) : Row)] ++ ls.drop r, q ∈ ls ∨ q = (p, sa, ⟨plug, [], o⟩) := fun q hq => by
      rcases List.mem_append.mp hq with hq | hq
      · rcases List.mem_append.mp hq with hq | hq
        · exact .inl (List.mem_of_mem_take hq)
        · exact .inr (List.mem_singleton.mp hq)
      · exact .inl (List.mem_of_mem_drop hq)
    refine k _ H3 e13 hT3 ⟨upd_same, fun q hq => ?_, fun q hq => ?_⟩ ?_
    · rcases hmem q hq with h | rfl
      · exact (hR3.each q h).updL hR3.h
      · exact hv.updL hR3.h
    · rcases hmem q hq with h | rfl
      · exact hR3.ok q h
      · exact ⟨hpc, by show 0 ≤ 3; decide, fun s hs => absurd hs List.not_mem_nil, ho⟩
    · rw [List.length_append, List.length_append, List.length_take, List.length_drop]
      show min r ls.length + 1 + (ls.length - r) = ls.length + 1
      omega⟩
/-- the family that the rows and the roots are -/
theorem fam_of {H : Hp} {f ra b : Addr} {c : Nat} {rs : List Nat} {ls : List Row} (hf : H f = some (.tup [nV c, .ref ra, .ref b])) (hr : H ra = some (.tup (rs.map nV))) (hb : H b = some (.tup (ls.map fun q => V.ref q.1))) (he : ∀ q ∈ ls, VarAt H q.1 q.2.1 q.2.2) (ho : ∀ q ∈ ls, VOk c q.2.2)
    (h1 : 1 ≤ c) (h4 : c ≤ 4) (hrs : rs.Nodup) (hrc : ∀ r ∈ rs, r < c) (hl : ls.length ≤ 12) : ∃ L F, FamAt H f L F := by
  refine ⟨⟨ra, b, fun i => (ls[i]?.map fun q => q.1).getD 0, fun i => (ls[i]?.map fun q => q.2.1).getD 0⟩, ⟨c, rs, ls.map fun q => q.2.2⟩, hf, hr, ?_, fun i x hx => ?_, ⟨h1, h4, hrc, hrs, by show (ls.map _).length ≤ 12; rw [List.length_map]; exact hl, fun x hx => ?_, fun x hx => ?_, fun x hx => ?_, fun x hx => ?_⟩⟩
  · rw [hb]
    congr 2
    refine List.ext_getElem? fun i => ?_
    show _ = ((List.range (ls.map fun q => q.2.2).length).map fun i => V.ref ((ls[i]?.map fun q => q.1).getD 0))[i]?
    rw [List.getElem?_map, List.getElem?_map, List.length_map]
    by_cases hi : i < ls.length
    · rw [List.getElem?_range hi, List.getElem?_eq_getElem hi]
      show _ = some (V.ref ((ls[i]?.map fun q => q.1).getD 0))
      rw [List.getElem?_eq_getElem hi] <;> rfl
    · rw [List.getElem?_eq_none (by omega), List.getElem?_eq_none (by rw [List.length_range]; omega)] <;> rfl
  · obtain ⟨q, hq, rfl⟩ : ∃ q, ls[i]? = some q ∧ x = q.2.2 := by
      have hx' : (ls.map fun q => q.2.2)[i]? = some x := hx
      rw [List.getElem?_map] at hx'
      cases z : ls[i]? with
      | none => rw [z] at hx'; cases hx'
      | some q => rw [z] at hx'; exact ⟨q, rfl, (Option.some.inj hx').symm⟩
    show VarAt H ((ls[i]?.map fun q => q.1).getD 0) ((ls[i]?.map fun q => q.2.1).getD 0) q.2.2
    rw [hq]
    exact he q (get_mem hq)
  · obtain ⟨q, hq, rfl⟩ := List.mem_map.mp hx
    exact (ho q hq).pl
  · obtain ⟨q, hq, rfl⟩ := List.mem_map.mp hx
    exact (ho q hq).s3
  · obtain ⟨q, hq, rfl⟩ := List.mem_map.mp hx
    exact (ho q hq).sl
  · obtain ⟨q, hq, rfl⟩ := List.mem_map.mp hx
    exact (ho q hq).pr
theorem s_asgL1 {σ : L2.St} {H : Hp} {ta tb : TE} {D : Ends} {t l : Addr} {m i : Nat} (ha : Ev ta σ H (.ref t)) (hb : Ev tb σ H (nV m)) (hT : TapeAt H t l) (h1 : 1 ≤ m) (h2 : m ≤ 1000000001) (k : ∀ (r : Nat) p H', Et t H H' → TapeAt H' t l → r < m → H' p = none → D.nx (σ.set i (some (.ref p))) (upd H' p (.lst [nV r]))) :
    tAsg (tLst (tCons (tCall spDraw [] E0 (tCons ta (tCons tb tNil))) tNil)) (gName i) D σ H := td_draw ha hb hT h1 h2 fun r H' e h hr => ⟨(by show 1 ≤ sizeLine; decide), fun p hp => k r p H' e h hr hp⟩
theorem s_ret3 {σ : L2.St} {H : Hp} {ta tb tc : TE} {D : Ends} {x : V} {ys zs : List V} (ha : Ev ta σ H x) (hb : ET tb σ H ys) (hc : ∀ H1, Ex H H1 → ET tc σ H1 zs) (k : ∀ r1 r2 f H1, Ex H H1 → H1 r1 = some (.tup ys) → H1 r2 = some (.tup zs) → H1 f = none → D.rt (.ref f) (upd H1 f (.tup [x, .ref r1, .ref r2]))) :
    tRet (tTup (tCons ta (tCons tb (tCons tc tNil)))) D σ H :=
  ha H (Ex.refl H) _ fun H1 e1 => hb H1 e1 _ fun r1 H2 e2 h1 => hc H2 (e1.trans e2) H2 (Ex.refl H2) _ fun r2 H3 e3 h2 => ⟨(by show 3 ≤ sizeLine; decide), fun f hf => k r1 r2 f H3 ((e1.trans e2).trans e3) (e3 _ _ h1) h2 hf⟩
theorem s_rootsD {σ : L2.St} {H : Hp} {tn ta : TE} {D : Ends} {t l : Addr} {c i j m : Nat} {vs : List Nat} (hn : Ev tn σ H (nV c)) (hc : c ≤ 1000) (hT : TapeAt H t l) (ha : ∀ {x : V} H1, Ev ta ((wipe σ vs).set j (some x)) H1 (.ref t)) (hw : ∀ x, wipe ((wipe σ vs).set j (some x)) vs = wipe σ vs) (hj : ∀ x : V, ((wipe σ vs).set j (some x))[j]? = some (some x)) (hm : ∀ _ : Nat, m = 3)
    (k : ∀ (ra : Addr) (rs : List Nat) H', Et t H H' → TapeAt H' t l → H ra = none → H' ra = some (.lst (rs.map nV)) → rs.Nodup → (∀ r ∈ rs, r < c) → D.nx (σ.set i (some (.ref ra))) H') :
    tAsg (tLc (iRng1 (tCons tn tNil)) (gName j) (tTest (tOp (rI0 fun i j => .bl (decide (j < i))) (tCall spDraw [] E0 (tCons ta (tCons (tC (.int (m : Int))) tNil))) (tC (.int 0)))) (tVar j) vs) (gName i) D σ H :=
  hn H (Ex.refl H) _ fun H1 e1 => ⟨(c : Int), rfl, by omega, by omega, fun Dl hD => lc_range (lo := 0) (n := (c : Int).toNat)
    (fun i H' => ∃ rs : List Nat, rs.Nodup ∧ (∀ r ∈ rs, r < i) ∧ rs.length ≤ i ∧ Et t H H' ∧ TapeAt H' t l ∧ H' Dl = some (.lst (rs.map nV)))
    ⟨[], List.nodup_nil, fun r hr => absurd hr List.not_mem_nil, Nat.le_refl _, Ex.et (e1.trans (Ex.new hD)), (hT.exx e1).exx (Ex.new hD), upd_same⟩
    (fun i H' hi p => by
      rw [Int.toNat_natCast] at hi
      have e0 : V.int ((0 : Int) + (i : Int)) = nV i := by show V.int _ = V.int _; rw [Int.zero_add]
      rw [e0]
      obtain ⟨rs, h1, h2, h3, h4, h5, h6⟩ := p
      obtain ⟨d1, d2, d3⟩ := (hT.exx e1).new (hT.exx e1) (Et.refl _) hD
      have hDH : hid H t Dl = none := fresh_back (Ex.et e1) hD
      refine ⟨hw _, ?_⟩
      have hm3 := hm 0
      subst hm3
      refine tt_drawGt (m := 3) (ha H') ev_c h5 (by decide) (by decide) fun bb H2 e2 hT2 => ?_
      refine ite_any ?_ ⟨rs, h1, fun r hr => Nat.lt_succ_of_lt (h2 r hr), by omega, h4.trans e2, hT2, e2.at d1 h6⟩
      refine ⟨nV i, hj _, rs.map nV, e2.at d1 h6, by rw [List.length_map]; exact sz_lt (by omega), rs ++ [i], ?_, fun r hr => ?_, by rw [List.length_append]; show rs.length + 1 ≤ i + 1; omega, Ex.mut (h4.trans e2) hDH, hT2.updL d1 d2, by rw [upd_same, List.map_append] <;> rfl⟩
      · exact List.nodup_append.mpr ⟨h1, List.nodup_cons.mpr ⟨List.not_mem_nil, List.nodup_nil⟩, fun a ha b hb z => by
          rw [List.mem_singleton] at hb
          have := h2 a ha
          omega⟩
      · rcases List.mem_append.mp hr with hr | hr
        · exact Nat.lt_succ_of_lt (h2 r hr)
        · rw [List.mem_singleton.mp hr]
          exact Nat.lt_succ_self _)
    (fun H' p => by
      rw [Int.toNat_natCast] at p
      obtain ⟨rs, h1, h2, h3, h4, h5, h6⟩ := p
      exact k Dl rs H' h4 h5 (fresh_back e1 hD) h6 h1 h2)⟩
theorem sc_law_family : FnScope ["_law_tape_here", "_law_states", "_law_variants", "_law_low", "_law_count", "_law_shape", "_law_mode", "_law_rows", "_law_k", "_law_plug", "_law_slots", "_law_j", "_law_goal", "_law_row", "_law_state", "_law_roots"] ["_law_tape_here", "_law_states", "_law_variants", "_law_low"] (defScope (top 46)) := ⟨rfl, rfl, rfl, by decide +kernel, rfl, by decide +kernel, by decide +kernel⟩
-- slots: 0 _law_tape_here, 1 _law_states, 2 _law_variants, 3 _law_low, 4 _law_count, 5 _law_shape, 6 _law_mode, 7 _law_rows, 8 _law_k, 9 _law_plug, 10 _law_slots, 11 _law_j, 12 _law_goal, 13 _law_row, 14 _law_state, 15 _law_roots

def spFam : Sp := fun vs H Q _ => ∃ (t l : Addr), vs = [.ref t, .int 4, .int 8, .int 0] ∧ TapeAt H t l ∧ ∀ f L F H', Et t H H' → TapeAt H' t l → FamAt H' f L F → Q (.ref f) H'
theorem ok_law_family (T : Txt K mg) : Good P w K mg base CX0 3 "_law_family" ["_law_tape_here", "_law_states", "_law_variants", "_law_low"] spFam := by
  have G_law_draw : Good P w K mg base CX0 2 "_law_draw" ["_law_tape_here", "_law_menu"] spDraw := (ok_law_draw T).mono (by decide)
  have G_law_price : Good P w K mg base CX0 2 "_law_price" ["_law_tape_here", "_law_mode", "_law_low"] spLPrice := ok_law_price T
  refine Good.of T (j := 32) (i := 46) rfl rfl sc_law_family (fun _ _ _ _ _ _ us hl => match us, hl with | [_, _, _, _], _ => rfl) (fun vs H Q E h => ?_) (fun cdv A outer s H vs Q E hr h => ?_)
  · obtain ⟨t, l, rfl, _⟩ := h
    rfl
  · obtain ⟨t, l, rfl, hT, q⟩ := h
    refine ⟨_, (pss_cons (ps_set (i := 4) sc_law_family.nd rfl (.inl rfl) (pe_op op_add pe_int (pe_c G_law_draw hr (pa_cons (pv 0) (pa_cons (pv 1) pa_nil)))))
(pss_cons (ps_set (i := 5) sc_law_family.nd rfl (.inl rfl) (pe_c G_law_draw hr (pa_cons (pv 0) (pa_cons pe_int pa_nil))))
(pss_cons (ps_set (i := 6) sc_law_family.nd rfl (.inl rfl) (pe_c G_law_draw hr (pa_cons (pv 0) (pa_cons pe_int pa_nil))))
(pss_cons (ps_set (i := 7) sc_law_family.nd rfl (.inl rfl) (pe_lst pa_nil))
(pss_cons (ps_for PassesOwn.never rfl (pi_range1 (by rfl) T.m_range (pa_cons (pe_c G_law_draw hr (pa_cons (pv 0) (pa_cons (pe_op op_add (pv 2) pe_int) pa_nil))) pa_nil)) (pg_name (i := 8) sc_law_family.nd rfl (.inl rfl))
(pss_cons (ps_set (i := 9) sc_law_family.nd rfl (.inl rfl) (pe_c G_law_draw hr (pa_cons (pv 0) (pa_cons (pv 4) pa_nil))))
(pss_cons (ps_set (i := 10) sc_law_family.nd rfl (.inl rfl) (pe_lst pa_nil))
(pss_cons (ps_for PassesOwn.never rfl (pi_range1 (by rfl) T.m_range (pa_cons (pe_ix ix_list (pe_lst (pa_cons pe_int (pa_cons pe_int (pa_cons pe_int (pa_cons pe_int (pa_cons pe_int (pa_cons pe_int pa_nil))))))) (pe_c G_law_draw hr (pa_cons (pv 0) (pa_cons pe_int pa_nil))) (fun _ _ => rfl)) pa_nil)) (pg_name (i := 11) sc_law_family.nd rfl (.inl rfl))
(pss_cons (ps_set (i := 12) sc_law_family.nd rfl (.inl rfl) (pe_c G_law_draw hr (pa_cons (pv 0) (pa_cons (pv 4) pa_nil))))
(pss_cut (ps_if (pt_cmpR op_eq (pv 5) pe_int (nomark _))
(pss_one (ps_set (i := 12) sc_law_family.nd rfl (.inl rfl) (pe_op op_add (pe_op op_add (pv 9) pe_int) (pv 12)))) pss_nil)
(pss_cut (ps_if (pt_cmpR op_eq (pv 5) pe_int (nomark _))
(pss_one (ps_set (i := 12) sc_law_family.nd rfl (.inl rfl) (pe_op op_sub (pe_op op_sub (pv 9) pe_int) (pv 12)))) pss_nil)
(pss_one (ps_if (PW.pt (pw_and (pt_cmpR op_le pe_int (pv 12) (nomark _)) (pw_and1 (pt_cmpR op_lt (pv 12) (pv 4) (nomark _)))))
(pss_one (ps_expr (pe_bm PySem.F.plainAttrs_list PySem.F.slot_list_append PySem.F.type_list_append mt_append (pv 10) (pa_cons (pv 12) pa_nil)))) pss_nil))))))
(pss_cons (ps_set (i := 13) sc_law_family.nd rfl (.inl rfl) (pe_tup (pa_cons (pv 9) (pa_cons (pe_callTy call_tuple_of (by rfl) T.m_tuple (by decide +kernel) (pa_cons (pv 10) pa_nil)) (pa_cons (pe_c G_law_price hr (pa_cons (pv 0) (pa_cons (pv 6) (pa_cons (pv 3) pa_nil)))) pa_nil)))))
(pss_cut (ps_if (PW.pt (pw_and (pt_tru (pv 7) (by intro _; rfl)) (pw_and1 (pt_cmpR op_eq (pe_c G_law_draw hr (pa_cons (pv 0) (pa_cons pe_int pa_nil))) pe_int (nomark _)))))
(pss_one (ps_set (i := 13) sc_law_family.nd rfl (.inl rfl) (pe_ix ix_list (pv 7) (pe_c G_law_draw hr (pa_cons (pv 0) (pa_cons (pe_callB call_len_seq (by rfl) T.m_len PySem.boot_len (pa_cons (pv 7) pa_nil)) pa_nil))) (fun _ _ => rfl)))) pss_nil)
(pss_one (ps_expr (pe_bm PySem.F.plainAttrs_list PySem.F.slot_list_append PySem.F.type_list_append mt_append (pv 7) (pa_cons (pv 13) pa_nil))))))))))
(pss_cut (ps_if (pt_cmpR op_eq (pe_c G_law_draw hr (pa_cons (pv 0) (pa_cons pe_int pa_nil))) pe_int (nomark _))
(pss_one (ps_for PassesOwn.never rfl (pi_range1 (by rfl) T.m_range (pa_cons (pv 4) pa_nil)) (pg_name (i := 14) sc_law_family.nd rfl (.inl rfl))
(pss_one (ps_expr (pe_bm PySem.F.plainAttrs_list PySem.F.slot_list_insert PySem.F.type_list_insert mt_insert (pv 7) (pa_cons (pe_c G_law_draw hr (pa_cons (pv 0) (pa_cons (pe_op op_add (pe_callB call_len_seq (by rfl) T.m_len PySem.boot_len (pa_cons (pv 7) pa_nil)) pe_int) pa_nil))) (pa_cons (pe_tup (pa_cons (pv 14) (pa_cons (pe_tup pa_nil) (pa_cons (pe_c G_law_price hr (pa_cons (pv 0) (pa_cons (pv 6) (pa_cons (pv 3) pa_nil)))) pa_nil)))) pa_nil))))))) pss_nil)
(pss_cons (ps_setLc (i := 15) (own := [("_law_state", 14)]) rfl sc_law_family.nd rfl rfl (sw_true rfl rfl rfl (by decide +kernel)) (pi_range1 (by rfl) T.m_range (pa_cons (pv 4) pa_nil)) (blkOk_by (own := [("_law_state", 14)]) (N := ["_law_tape_here", "_law_states", "_law_variants", "_law_low", "_law_count", "_law_shape", "_law_mode", "_law_rows", "_law_k", "_law_plug", "_law_slots", "_law_j", "_law_goal", "_law_row", "_law_state", "_law_roots"]) (sc := defScope (top 46)) (by decide +kernel)) (fun _ _ _ _ _ => (pg_name (i := 14) sc_law_family.nd rfl (.inl rfl))) (fun _ _ _ _ _ => (pts_one (pt_cmpR op_gt (pe_c G_law_draw hr (pa_cons (pv 0) (pa_cons pe_int pa_nil))) pe_int (nomark _)))) (fun _ _ _ _ _ => (pv 14)))
(pss_cut (ps_if (PW.pt (pw_and (pt_not (pt_tru (pv 15) (by intro _; rfl))) (pw_and1 (pt_cmpR op_gt (pe_c G_law_draw hr (pa_cons (pv 0) (pa_cons pe_int pa_nil))) pe_int (nomark _)))))
(pss_one (ps_set (i := 15) sc_law_family.nd rfl (.inl rfl) (pe_lst (pa_cons (pe_c G_law_draw hr (pa_cons (pv 0) (pa_cons (pv 4) pa_nil))) pa_nil)))) pss_nil)
(pss_one (ps_ret (pe_tup (pa_cons (pv 4) (pa_cons (pe_callTy call_tuple_of (by rfl) T.m_tuple (by decide +kernel) (pa_cons (pv 15) pa_nil)) (pa_cons (pe_callTy call_tuple_of (by rfl) T.m_tuple (by decide +kernel) (pa_cons (pv 7) pa_nil)) pa_nil)))))))))))))), ?_⟩
    refine s_asgD1 (m := 4) (ev_var rfl) (ev_var rfl) hT (by decide) (by decide) fun r0 H1 e1 hT1 hr0 => ?_
    refine s_asgD (m := 8) (ev_var rfl) ev_c hT1 (by decide) (by decide) fun shape H2 e2 hT2 _ => ?_
    refine s_asgD (m := 4) (ev_var rfl) ev_c hT2 (by decide) (by decide) fun md H3 e3 hT3 hmd => ?_
    refine s_asgL (el_lst ea_nil (by decide)) fun b H4 nb e4 hb => ?_
    generalize hc : 1 + r0 = c at *
    have hc1 : 1 ≤ c := by omega
    have hc4 : c ≤ 4 := by omega
    have e14 : Et t H H4 := e1.trans (e2.trans (e3.trans (Ex.et e4)))
    have hT4 := hT3.exx e4
    obtain ⟨hbt, hbl, nbH⟩ := hT.new hT3 (e1.trans (e2.trans e3)) nb
    refine s_forRX (P' := fun n H' => n < 9 ∧ Et t H4 H' ∧ TapeAt H' t l) (fun Q' q' => td_draw (m := 9) (ev_var rfl) (ev_is (ev_op (ev_var rfl) ev_c rv_I0) rfl) hT4 (by decide) (by decide) fun r H' e' hT' hr => q' r H' ⟨hr, e', hT'⟩) fun n H5 hn => ?_
    obtain ⟨hn9, e5, hT5⟩ := hn
    refine ⟨by omega, fun i σ' H' => ∃ (ls : List Row) (y8 y9 y10 y11 y12 y13 : Option V), σ' = [some (.ref t), some (.int 4), some (.int 8), some (.int 0), some (nV c), some (nV shape), some (nV md), some (.ref b), y8, y9, y10, y11, y12, y13, none, none] ∧ Et t H H' ∧ TapeAt H' t l ∧ RowsAt H' b c ls ∧ ls.length = i,
      ⟨[], none, none, none, none, none, none, rfl, e14.trans e5, hT5, ⟨e5.at hbt hb, fun q hq => absurd hq List.not_mem_nil, fun q hq => absurd hq List.not_mem_nil⟩, rfl⟩, fun i σ' H6 hi hW => ?_, fun σ' H6 hW => ?_⟩
    · obtain ⟨ls, y8, y9, y10, y11, y12, y13, rfl, eH, hT6, hR, hln⟩ := hW
      refine s_asgD (m := c) (ev_var rfl) (ev_var rfl) hT6 hc1 (by omega) fun plug H7 e7 hT7 hplug => ?_
      refine s_asgL (el_lst ea_nil (by decide)) fun sb H8 nsb e8 hsb => ?_
      obtain ⟨hst, hsl, nsH⟩ := hT.new hT7 (eH.trans e7) nsb
      have hR7 := hR.et hT6 hbt e7
      have hsbb : sb ≠ b := fun z => by rw [z, hR7.h] at nsb; cases nsb
      have e68 := e7.trans (Ex.et e8)
      have hT8 := hT7.exx e8
      refine s_forRX (P' := fun n H' => n ≤ 3 ∧ Et t H8 H' ∧ TapeAt H' t l) (fun Q' q' => td_menu (cs := [0, 1, 1, 2, 2, 3]) (el_lst (ea_cons ev_c (ea_cons ev_c (ea_cons ev_c (ea_cons ev_c (ea_cons ev_c (ea_cons ev_c ea_nil)))))) (by show 6 ≤ 100000; decide)) (fun _ => ev_var rfl) (fun _ => ev_c) hT8 (by decide) (by decide) fun r cc H' e' hT' hr => q' cc H' ⟨?_, e', hT'⟩) fun n2 H9 hn2 => ?_
      · have hm := List.mem_of_getElem? hr
        simp only [List.mem_cons, List.not_mem_nil, or_false] at hm
        omega
      obtain ⟨hn3, e9, hT9⟩ := hn2
      have hR9 := (hR7.ex e8).et hT8 hbt e9
      refine ⟨by omega, fun j σ' H' => ∃ (sl : List Nat) (y11 y12 : Option V), σ' = [some (.ref t), some (.int 4), some (.int 8), some (.int 0), some (nV c), some (nV shape), some (nV md), some (.ref b), some (nV i), some (nV plug), some (.ref sb), y11, y12, y13, none, none] ∧ Et t H H' ∧ TapeAt H' t l ∧ RowsAt H' b c ls ∧ H' sb = some (.lst (sl.map nV)) ∧ sl.length ≤ j ∧ ∀ s ∈ sl, s < c,
        ⟨[], _, _, rfl, eH.trans (e68.trans e9), hT9, hR9, e9.at hst hsb, Nat.le_refl _, fun s hs => absurd hs List.not_mem_nil⟩, fun j σ' H10 hj hW => ?_, fun σ' H10 hW => ?_⟩
      · obtain ⟨sl, y11, y12, rfl, eH10, hT10, hR10, hs10, hsl10, hsc10⟩ := hW
        refine s_asgD (m := c) (ev_var rfl) (ev_var rfl) hT10 hc1 (by omega) fun g0 H11 e11 hT11 hg0 => ?_
        have hR11 := hR10.et hT10 hbt e11
        have hs11 := e11.at hst hs10
        refine ⟨fun σ' H' => ∃ g : Int, σ' = [some (.ref t), some (.int 4), some (.int 8), some (.int 0), some (nV c), some (nV shape), some (nV md), some (.ref b), some (nV i), some (nV plug), some (.ref sb), some (nV j), some (.int g), y13, none, none] ∧ Ex H11 H', ?_, fun σ' H12 hW => ?_⟩
        · exact s_if (et_test (ev_op (ev_var rfl) ev_c (rv_eq rfl))) (fun _ H12 e12 => s_asg (ev_op (ev_op (ev_var rfl) ev_c rv_I0) (ev_var rfl) rv_I0) fun H13 e13 => ⟨_, rfl, e12.trans e13⟩) (fun _ H12 e12 => ⟨_, rfl, e12⟩)
        · obtain ⟨g, rfl, e12⟩ := hW
          refine ⟨fun σ' H' => ∃ g : Int, σ' = [some (.ref t), some (.int 4), some (.int 8), some (.int 0), some (nV c), some (nV shape), some (nV md), some (.ref b), some (nV i), some (nV plug), some (.ref sb), some (nV j), some (.int g), y13, none, none] ∧ Ex H11 H', ?_, fun σ' H13 hW => ?_⟩
          · exact s_if (et_test (ev_op (ev_var rfl) ev_c (rv_eq rfl))) (fun _ H13 e13 => s_asg (ev_op (ev_op (ev_var rfl) ev_c rv_I0) (ev_var rfl) rv_I0) fun H14 e14 => ⟨_, rfl, e12.trans (e13.trans e14)⟩) (fun _ H13 e13 => ⟨_, rfl, e12.trans e13⟩)
          · obtain ⟨g, rfl, e13⟩ := hW
            have eH13 : Et t H H13 := eH10.trans (e11.trans (Ex.et e13))
            refine s_if (b := decide ((0 : Int) ≤ g) && decide (g < (c : Int))) (et_and (et_test (ev_op ev_c (ev_var rfl) rv_I0)) fun _ => et_test (ev_op (ev_var rfl) (ev_var rfl) rv_I0)) (fun hb2 H14 e14 => ?_) (fun _ H14 e14 => ⟨sl, _, _, rfl, eH13.trans (Ex.et e14), hT11.exx (e13.trans e14), hR11.ex (e13.trans e14), e14 _ _ (e13 _ _ hs11), by omega, hsc10⟩)
            obtain ⟨g1, g2⟩ := Bool.and_eq_true_iff.mp hb2
            have g1' := of_decide_eq_true g1
            have g2' := of_decide_eq_true g2
            obtain ⟨gn, rfl⟩ := Int.eq_ofNat_of_zero_le g1'
            refine s_appE (v := nV gn) (e14 _ _ (e13 _ _ hs11)) (ev_var rfl) (ev_var rfl) (by rw [List.length_map]; omega) fun H15 e15 => ?_
            have e1115 := e13.trans (e14.trans e15)
            have hR15 := hR11.ex e1115
            refine ⟨sl ++ [gn], _, _, rfl, Ex.mut (eH10.trans (e11.trans (Ex.et e1115))) nsH, (hT11.exx e1115).updL hst hsl, ⟨by rw [upd_ne (fun z => hsbb z.symm)]; exact hR15.h, fun q hq => (hR15.each q hq).updL (e1115 _ _ hs11), hR15.ok⟩, by rw [upd_same, List.map_append] <;> rfl, by rw [List.length_append]; show sl.length + 1 ≤ j + 1; omega, fun s hs => ?_⟩
            rcases List.mem_append.mp hs with hs | hs
            · exact hsc10 s hs
            · rw [List.mem_singleton] at hs
              rw [hs]
              have : ((gn : Nat) : Int) < (c : Int) := g2'
              omega
      · obtain ⟨sl, y11, y12, rfl, eH10, hT10, hR10, hs10, hsl10, hsc10⟩ := hW
        refine s_asgR (plug := plug) (slots := sl) (md := md) (ev_var rfl) (et_tupleL (ev_var rfl) hs10) (fun _ => ev_var rfl) (fun _ => ev_var rfl) (fun _ => ev_var rfl) hT10 hmd fun p sa o H11 e11 hT11 hv ho => ?_
        have hR11 := hR10.et hT10 hbt e11
        refine ⟨fun σ' H' => ∃ (p sa : Addr) (x : Var), σ' = [some (.ref t), some (.int 4), some (.int 8), some (.int 0), some (nV c), some (nV shape), some (nV md), some (.ref b), some (nV i), some (nV plug), some (.ref sb), y11, y12, some (.ref p), none, none] ∧ Et t H H' ∧ TapeAt H' t l ∧ RowsAt H' b c ls ∧ VarAt H' p sa x ∧ VOk c x, ?_, fun σ' H12 hW => ?_⟩
        · have hbase : VOk c ⟨plug, sl, o⟩ := ⟨hplug, by show sl.length ≤ 3; omega, hsc10, ho⟩
          refine s_ifQ (tt_and (et_lst (ev_var rfl) hR11.h) (fun hne H12 e12 => tt_drawEq (m := 8) (ev_var rfl) ev_c (hT11.exx e12) (by decide) (by decide) fun bb H13 e13 hT13 => ?_) fun _ H12 e12 => ⟨p, sa, _, rfl, eH10.trans (e11.trans (Ex.et e12)), hT11.exx e12, hR11.ex e12, hv.ex e12, hbase⟩)
          have hR13 := (hR11.ex e12).et (hT11.exx e12) hbt e13
          have e1013 : Et t H H13 := eH10.trans (e11.trans ((Ex.et e12).trans e13))
          refine ite_any ?_ ⟨p, sa, _, rfl, e1013, hT13, hR13, (hv.ex e12).et (hT11.exx e12) e13, hbase⟩
          have hl1 : 1 ≤ ls.length := by
            cases ls with
            | nil => simp at hne
            | cons a r => rw [List.length_cons]; omega
          refine s_pick (b := b) (ev_var rfl) hR13.h hbt (fun _ => ev_var rfl) (fun H14 e14 => ev_lenL (ev_var rfl) ((hR13.ex e14).h)) hT13 (by rw [List.length_map]; exact hl1) (by rw [List.length_map]; omega) fun r v H15 e15 hT15 hr => ?_
          obtain ⟨qq, hq, rfl⟩ := map_get hr
          have hR15 := hR13.et hT13 hbt e15
          exact ⟨qq.1, qq.2.1, qq.2.2, rfl, e1013.trans e15, hT15, hR15, hR15.each _ (get_mem hq), hR15.ok _ (get_mem hq)⟩
        · obtain ⟨p, sa, x, rfl, eH12, hT12, hR12, hv12, hx12⟩ := hW
          refine s_appE (v := .ref p) hR12.h (ev_var rfl) (ev_var rfl) (by rw [List.length_map]; omega) fun H13 e13 => ?_
          have hR13 := hR12.ex e13
          refine ⟨ls ++ [(p, sa, x)], _, _, _, _, _, _, rfl, Ex.mut (eH12.trans (Ex.et e13)) nbH, (hT12.exx e13).updL hbt hbl, ⟨by rw [upd_same, List.map_append] <;> rfl, fun q hq => ?_, fun q hq => ?_⟩, by rw [List.length_append, hln] <;> rfl⟩
          · rcases List.mem_append.mp hq with hq | hq
            · exact (hR13.each q hq).updL hR13.h
            · rw [List.mem_singleton] at hq
              subst hq
              exact (hv12.ex e13).updL hR13.h
          · rcases List.mem_append.mp hq with hq | hq
            · exact hR13.ok q hq
            · rw [List.mem_singleton] at hq
              subst hq
              exact hx12
    · obtain ⟨ls, y8, y9, y10, y11, y12, y13, rfl, eH, hT6, hR, hln⟩ := hW
      refine ⟨fun σ' H' => ∃ (ls : List Row) (y14 : Option V), σ' = [some (.ref t), some (.int 4), some (.int 8), some (.int 0), some (nV c), some (nV shape), some (nV md), some (.ref b), y8, y9, y10, y11, y12, y13, y14, none] ∧ Et t H H' ∧ TapeAt H' t l ∧ RowsAt H' b c ls ∧ ls.length ≤ 12, ?_, fun σ' H7 hW => ?_⟩
      · refine s_ifQ (tt_drawEq (m := 2) (ev_var rfl) ev_c hT6 (by decide) (by decide) fun bb H7 e7 hT7 => ?_)
        have hR7 := hR.et hT6 hbt e7
        refine ite_any ?_ ⟨ls, _, rfl, eH.trans e7, hT7, hR7, by omega⟩
        refine s_forR1 (n := (c : Int)) (ea_cons (ev_var rfl) ea_nil) (by omega) (fun i σ' H' => ∃ (ls : List Row) (y14 : Option V), σ' = [some (.ref t), some (.int 4), some (.int 8), some (.int 0), some (nV c), some (nV shape), some (nV md), some (.ref b), y8, y9, y10, y11, y12, y13, y14, none] ∧ Et t H H' ∧ TapeAt H' t l ∧ RowsAt H' b c ls ∧ ls.length ≤ 8 + i)
          (fun H8 e8 => ⟨ls, none, rfl, eH.trans (e7.trans (Ex.et e8)), hT7.exx e8, hR7.ex e8, by omega⟩) (fun i σ' H8 hi hW => ?_) (fun σ' H8 hW => ?_)
        · obtain ⟨ls2, y14, rfl, eH8, hT8, hR8, hl8⟩ := hW
          have hc' : i < c := by omega
          exact s_insR (m := ls2.length + 1) (plug := i) (md := md) (ls := ls2) (ev_var rfl) hR8 hbt hT8 (fun _ => ev_var rfl) (ev_is (ev_op (ev_lenL (ev_var rfl) hR8.h) ev_c rv_I0) (by show V.int _ = V.int _; rw [List.length_map, Int.natCast_succ])) (by omega) (by omega) (by omega) (fun _ => ev_var rfl) (fun _ => et_new (eu_tup ea_nil (by decide))) (fun _ => ev_var rfl) (fun _ => ev_var rfl) (fun _ => ev_var rfl) hmd hc'
            fun ls' H9 e9 hT9 hR9 hl9 => ⟨ls', _, rfl, Ex.mut (eH8.trans e9) nbH, hT9.updL hbt hbl, hR9, by omega⟩
        · obtain ⟨ls2, y14, rfl, eH8, hT8, hR8, hl8⟩ := hW
          rw [Int.toNat_natCast] at hl8
          exact ⟨ls2, y14, rfl, eH8, hT8, hR8, by omega⟩
      · obtain ⟨ls, y14, rfl, eH7, hT7, hR7, hl7⟩ := hW
        refine s_rootsD (c := c) (t := t) (l := l) (ev_var rfl) (by omega) hT7 (fun _ => ev_var rfl) (fun _ => rfl) (fun _ => rfl) (fun _ => rfl) fun ra rs H8 e8 hT8 nra hra hrs hrc => ?_
        obtain ⟨hrt, hrl, nrH⟩ := hT.new hT7 eH7 nra
        have hR8 := hR7.et hT7 hbt e8
        refine ⟨fun σ' H' => ∃ (ra : Addr) (rs : List Nat), σ' = [some (.ref t), some (.int 4), some (.int 8), some (.int 0), some (nV c), some (nV shape), some (nV md), some (.ref b), y8, y9, y10, y11, y12, y13, y14, some (.ref ra)] ∧ Et t H H' ∧ TapeAt H' t l ∧ RowsAt H' b c ls ∧ H' ra = some (.lst (rs.map nV)) ∧ rs.Nodup ∧ ∀ r ∈ rs, r < c, ?_, fun σ' H9 hW => ?_⟩
        · refine s_ifQ (tt_and (et_not (et_lst (ev_var rfl) hra)) (fun hne H9 e9 => tt_drawGt (m := 8) (ev_var rfl) ev_c (hT8.exx e9) (by decide) (by decide) fun bb H10 e10 hT10 => ?_) fun _ H9 e9 => ⟨ra, rs, rfl, eH7.trans (e8.trans (Ex.et e9)), hT8.exx e9, hR8.ex e9, e9 _ _ hra, hrs, hrc⟩)
          have hR10 := (hR8.ex e9).et (hT8.exx e9) hbt e10
          have eH10 : Et t H H10 := eH7.trans (e8.trans ((Ex.et e9).trans e10))
          refine ite_any ?_ ⟨ra, rs, rfl, eH10, hT10, hR10, e10.at hrt (e9 _ _ hra), hrs, hrc⟩
          refine s_asgL1 (m := c) (ev_var rfl) (ev_var rfl) hT10 hc1 (by omega) fun r p H11 e11 hT11 hr np => ?_
          have ep : Ex H11 (upd H11 p (.lst [nV r])) := Ex.new np
          exact ⟨p, [r], rfl, eH10.trans (e11.trans (Ex.et ep)), hT11.exx ep, (hR10.et hT10 hbt e11).ex ep, upd_same, List.nodup_cons.mpr ⟨List.not_mem_nil, List.nodup_nil⟩, fun s hs => by rw [List.mem_singleton.mp hs]; exact hr⟩
        · obtain ⟨ra, rs, rfl, eH9, hT9, hR9, hra9, hrs9, hrc9⟩ := hW
          refine s_ret3 (ev_var rfl) (et_tupleL (ev_var rfl) hra9) (fun H10 e10 => et_tupleL (ev_var rfl) (e10 _ _ hR9.h)) fun r1 r2 f H10 e10 h1 h2 nf => ?_
          have ef : Ex H10 (upd H10 f (.tup [nV c, .ref r1, .ref r2])) := Ex.new nf
          have e910 := e10.trans ef
          obtain ⟨L, F, hF⟩ := fam_of (H := upd H10 f (.tup [nV c, .ref r1, .ref r2])) (f := f) (ra := r1) (b := r2) (c := c) (rs := rs) (ls := ls) upd_same (ef _ _ h1) (ef _ _ h2) (fun q hq => (hR9.each q hq).ex e910) hR9.ok hc1 hc4 hrs9 hrc9 hl7
          exact q f L F _ (eH9.trans (Ex.et e910)) (hT9.exx e910) hF
end
end S
end

section
set_option Elab.async false
set_option linter.all false
set_option autoImplicit false
set_option maxRecDepth 100000
set_option maxHeartbeats 4000000
namespace S
open PySem PySem.Spec PyProof.Rows L2 Evl
/-! ### sizes: None, or some number -/
def SzV (v : V) (b : Bool) : Prop := (b = false ∧ v = .non) ∨ (b = true ∧ ∃ n : Int, v = .int n)
theorem SzV.nonN {v : V} {b : Bool} (h : SzV v b) : (!decide (v = V.non)) = b := by
  rcases h with ⟨rfl, rfl⟩ | ⟨rfl, n, rfl⟩
  · rfl
  · rw [decide_eq_false (fun z => by cases z)] <;> rfl
theorem SzV.non {v : V} {b : Bool} (h : SzV v b) : decide (v = V.non) = !b := by
  rcases h with ⟨rfl, rfl⟩ | ⟨rfl, n, rfl⟩
  · rfl
  · rw [decide_eq_false (fun z => by cases z)] <;> rfl
structure SzAt (us : List V) (bs : List Bool) : Prop where
  len : us.length = bs.length
  each : ∀ s v, us[s]? = some v → SzV v (bs.getD s false)
theorem SzAt.get {us : List V} {bs : List Bool} {s : Nat} (h : SzAt us bs) (hs : s < bs.length) : ∃ v, us[s]? = some v ∧ SzV v (bs.getD s false) := by
  have hs' : s < us.length := by rw [h.len]; exact hs
  exact ⟨_, List.getElem?_eq_getElem hs', h.each s _ (List.getElem?_eq_getElem hs')⟩
theorem SzAt.set {us : List V} {bs : List Bool} {s : Nat} {v : V} {b : Bool} (h : SzAt us bs) (hs : s < bs.length) (hv : SzV v b) : SzAt (us.set s v) (bs.set s b) := by
  refine ⟨by rw [List.length_set, List.length_set]; exact h.len, fun t u hu => ?_⟩
  by_cases e : t = s
  · subst e
    rw [List.getElem?_set_self (by rw [h.len]; exact hs)] at hu
    rw [List.getD_eq_getElem?_getD, List.getElem?_set_self hs, ← Option.some.inj hu]
    exact hv
  · rw [List.getElem?_set_ne (fun z => e z.symm)] at hu
    rw [List.getD_eq_getElem?_getD, List.getElem?_set_ne (fun z => e z.symm), ← List.getD_eq_getElem?_getD]
    exact h.each t u hu
section
variable {P : Program} {w : World} {K : PySem.W.Frag} {mg : Str → Option Value} {base : Heap}
/-! ### _law_size -/
theorem sc_law_size : FnScope ["_law_variant", "_law_sizes_here", "_law_size_here", "_law_state"] ["_law_variant", "_law_sizes_here"] (defScope (top 47)) := ⟨rfl, rfl, rfl, by decide +kernel, rfl, by decide +kernel, by decide +kernel⟩
-- slots: 0 _law_variant, 1 _law_sizes_here, 2 _law_size_here, 3 _law_state

def spLSize : Sp := fun vs H Q _ => ∃ (a sa p : Addr) (x : Var) (us : List V) (bs : List Bool), vs = [.ref a, .ref p] ∧ VarAt H a sa x ∧ H p = some (.lst us) ∧ SzAt us bs ∧ (∀ t ∈ x.slots, t < bs.length) ∧ ∀ v H', Ex H H' → SzV v (canB x bs) → Q v H'
theorem ok_law_size (T : Txt K mg) : Good P w K mg base CX0 1 "_law_size" ["_law_variant", "_law_sizes_here"] spLSize := by
  refine Good.of T (j := 33) (i := 47) rfl rfl sc_law_size (fun _ _ _ _ _ _ us hl => match us, hl with | [_, _], _ => rfl) (fun vs H Q E h => ?_) (fun cdv A outer s H vs Q E hr h => ?_)
  · obtain ⟨a, sa, p, x, us, bs, rfl, _⟩ := h
    rfl
  · obtain ⟨a, sa, p, x, us, bs, rfl, hv, hp, hz, hsl, q⟩ := h
    refine ⟨_, (pss_cons (ps_if (pt_cmpR op_isN (pe_ix ix_tup (pv 0) pe_int (fun _ _ => rfl)) pe_non (nomark _))
(pss_one (ps_ret pe_non)) pss_nil)
(pss_cons (ps_set (i := 2) sc_law_size.nd rfl (.inl rfl) pe_int)
(pss_cons (ps_for PassesOwn.never rfl (pi_tup (pe_ix ix_tup (pv 0) pe_int (fun _ _ => rfl))) (pg_name (i := 3) sc_law_size.nd rfl (.inl rfl))
(pss_cons (ps_if (pt_cmpR op_isN (pe_ix ix_list (pv 1) (pv 3) (fun _ _ => rfl)) pe_non (nomark _))
(pss_one (ps_ret pe_non)) pss_nil)
(pss_one (ps_set (i := 2) sc_law_size.nd rfl (.inl rfl) (pe_op op_add (pv 2) (pe_ix ix_list (pv 1) (pv 3) (fun _ _ => rfl)))))))
(pss_one (ps_ret (pv 2)))))), ?_⟩
    refine s_if (et_test (ev_isN (ev_v2 (ev_var rfl) hv))) (fun hb H1 e1 => ?_) (fun hb H1 e1 => ?_)
    · have hpr : x.price = none := by
        cases z : x.price with
        | none => rfl
        | some pr =>
          rw [z] at hb
          have := of_decide_eq_true hb
          cases this
      refine s_ret ev_c fun H2 e2 => q _ H2 (e1.trans e2) (.inl ⟨?_, rfl⟩)
      cases z : canB x bs with
      | false => rfl
      | true =>
        have := (canB_iff.mp z).1
        rw [hpr] at this
        cases this
    · have hpr : x.price.isSome = true := by
        cases z : x.price with
        | none =>
          rw [z] at hb
          exact absurd rfl (of_decide_eq_false hb)
        | some pr => rfl
      dsimp only [L2.tNext]
      refine s_asg ev_c fun H2 e2 => ?_
      have e12 := e1.trans e2
      refine s_forT (ev_v1 (ev_var rfl) (hv.ex e12)) (SqT.of (e12 _ _ hv.hs)) (fun i σ' H' => ∃ (n : Int) (y3 : Option V), σ' = [some (.ref a), some (.ref p), some (.int n), y3] ∧ Ex H H' ∧ ∀ t ∈ x.slots.take i, bs.getD t false = true)
        (fun H3 e3 => ⟨1, none, rfl, e12.trans e3, fun t ht => absurd (show t ∈ ([] : List Nat) from ht) List.not_mem_nil⟩) (fun i σ' H' _ hW => SqT.of (by obtain ⟨_, _, _, z, _⟩ := hW; exact z _ _ hv.hs)) (fun i v σ' H3 hx hW => ?_) (fun σ' H3 hW => ?_)
      · obtain ⟨n, y3, rfl, eH, hall⟩ := hW
        obtain ⟨t, ht, rfl⟩ := map_get hx
        obtain ⟨u, hu, hsz⟩ := hz.get (hsl t (get_mem ht))
        refine s_if (et_test (ev_isN (ev_ixL (ev_var rfl) (ev_var rfl) (eH _ _ hp) hu))) (fun hb5 H5 e5 => ?_) (fun hb5 H5 e5 => ?_)
        · rw [hsz.non] at hb5
          refine s_ret ev_c fun H6 e6 => q _ H6 (eH.trans (e5.trans e6)) (.inl ⟨?_, rfl⟩)
          cases z : canB x bs with
          | false => rfl
          | true =>
            have := (canB_iff.mp z).2 t (get_mem ht)
            rw [this] at hb5
            cases hb5
        · rw [hsz.non] at hb5
          have hbt : bs.getD t false = true := by simpa using hb5
          rcases hsz with ⟨h1, _⟩ | ⟨_, m, rfl⟩
          · rw [hbt] at h1
            cases h1
          · refine s_asg (ev_op (ev_var rfl) (ev_ixL (ev_var rfl) (ev_var rfl) ((eH.trans e5) _ _ hp) hu) rv_I0) fun H6 e6 => ⟨_, _, rfl, eH.trans (e5.trans e6), fun t' ht' => ?_⟩
            rw [List.take_add_one, ht] at ht'
            rcases List.mem_append.mp ht' with h | h
            · exact hall t' h
            · have : t' = t := List.mem_singleton.mp h
              rw [this]
              exact hbt
      · obtain ⟨n, y3, rfl, eH, hall⟩ := hW
        rw [List.length_map, List.take_length] at hall
        exact s_ret (ev_var rfl) fun H5 e5 => q _ H5 (eH.trans e5) (.inr ⟨canB_iff.mpr ⟨hpr, hall⟩, n, rfl⟩)
theorem ex_lsize {σ : L2.St} {H : Hp} {ta tb : TE} {a sa p : Addr} {x : Var} {us : List V} {bs : List Bool} (ha : Ev ta σ H (.ref a)) (hb : Ev tb σ H (.ref p)) (hv : VarAt H a sa x) (hp : H p = some (.lst us)) (hz : SzAt us bs) (hs : ∀ t ∈ x.slots, t < bs.length) :
    EX (tCall spLSize [] E0 (tCons ta (tCons tb tNil))) σ H (fun v _ => SzV v (canB x bs)) :=
  ex_call (ea_cons ha (ea_cons hb ea_nil)) fun H1 e Q q E => ⟨a, sa, p, x, us, bs, rfl, hv.ex e, e _ _ hp, hz, hs, fun v H' e' h => q v H' e' h⟩
/-! ### _law_sizes -/
theorem sc_law_sizes : FnScope ["_law_family_here", "_law_sizes_here", "_law_turn", "_law_changed", "_law_variant", "_law_size_here", "_law_state"] ["_law_family_here"] (defScope (top 48)) := ⟨rfl, rfl, rfl, by decide +kernel, rfl, by decide +kernel, by decide +kernel⟩
-- slots: 0 _law_family_here, 1 _law_sizes_here, 2 _law_turn, 3 _law_changed, 4 _law_variant, 5 _law_size_here, 6 _law_state

def closedB (F : Fam) (bs : List Bool) : Prop := ∀ x ∈ F.vs, canB x bs = true → bs.getD x.plug false = true
def spLSizes : Sp := fun vs H Q _ => ∃ (f : Addr) (L : Lay) (F : Fam), vs = [.ref f] ∧ FamAt H f L F ∧ ∀ p us bs H', Ex H H' → H' p = some (.lst us) → SzAt us bs → FillOk F bs → Q (.ref p) H'
theorem canB_sound {F : Fam} {bs : List Bool} {x : Var} (h : ∀ s, bs.getD s false = true → Filled F s) (hx : x ∈ F.vs) (hc : canB x bs = true) : Filled F x.plug := by
  obtain ⟨h1, h2⟩ := canB_iff.mp hc
  exact .mk hx h1 fun s hs => h s (h2 s hs)
theorem ok_law_sizes (T : Txt K mg) : Good P w K mg base CX0 2 "_law_sizes" ["_law_family_here"] spLSizes := by
  have G_law_size : Good P w K mg base CX0 1 "_law_size" ["_law_variant", "_law_sizes_here"] spLSize := ok_law_size T
  refine Good.of T (j := 34) (i := 48) rfl rfl sc_law_sizes (fun _ _ _ _ _ _ us hl => match us, hl with | [_], _ => rfl) (fun vs H Q E h => ?_) (fun cdv A outer s H vs Q E hr h => ?_)
  · obtain ⟨f, L, F, rfl, _⟩ := h
    rfl
  · obtain ⟨f, L, F, rfl, hF, q⟩ := h
    refine ⟨_, (pss_cons (ps_setLc (i := 1) (own := [("_law_state", 6)]) rfl sc_law_sizes.nd rfl rfl (sw_true rfl rfl rfl (by decide +kernel)) (pi_range1 (by rfl) T.m_range (pa_cons (pe_ix ix_tup (pv 0) pe_int (fun _ _ => rfl)) pa_nil)) (blkOk_by (own := [("_law_state", 6)]) (N := ["_law_family_here", "_law_sizes_here", "_law_turn", "_law_changed", "_law_variant", "_law_size_here", "_law_state"]) (sc := defScope (top 48)) (by decide +kernel)) (fun _ _ _ _ _ => (pg_name (i := 6) sc_law_sizes.nd rfl (.inl rfl))) (fun _ _ _ _ _ => pts_nil) (fun _ _ _ _ _ => pe_non))
(pss_cons (ps_for PassesOwn.never rfl (pi_range1 (by rfl) T.m_range (pa_cons (pe_op op_add (pe_ix ix_tup (pv 0) pe_int (fun _ _ => rfl)) pe_int) pa_nil)) (pg_name (i := 2) sc_law_sizes.nd rfl (.inl rfl))
(pss_cons (ps_set (i := 3) sc_law_sizes.nd rfl (.inl rfl) pe_bl)
(pss_cons (ps_for PassesOwn.never rfl (pi_tup (pe_ix ix_tup (pv 0) pe_int (fun _ _ => rfl))) (pg_name (i := 4) sc_law_sizes.nd rfl (.inl rfl))
(pss_cons (ps_set (i := 5) sc_law_sizes.nd rfl (.inl rfl) (pe_c G_law_size hr (pa_cons (pv 4) (pa_cons (pv 1) pa_nil))))
(pss_one (ps_if (PW.pt (pw_and (pt_cmpR op_notN (pv 5) pe_non (nomark _)) (pw_and1 (PW.pt (pw_or (pt_cmpR op_isN (pe_ix ix_list (pv 1) (pe_ix ix_tup (pv 4) pe_int (fun _ _ => rfl)) (fun _ _ => rfl)) pe_non (nomark _)) (pw_or1 (pt_cmpR op_lt (pv 5) (pe_ix ix_list (pv 1) (pe_ix ix_tup (pv 4) pe_int (fun _ _ => rfl)) (fun _ _ => rfl)) (nomark _))))))))
(pss_cons (ps_asg (pv 5) (pg_sub (pv 1) (pe_ix ix_tup (pv 4) pe_int (fun _ _ => rfl)) set_list))
(pss_one (ps_set (i := 3) sc_law_sizes.nd rfl (.inl rfl) pe_bl))) pss_nil))))
(pss_one (ps_if (pt_not (pt_val (pv 3)))
(pss_one (ps_break)) pss_nil)))))
(pss_one (ps_ret (pv 1))))), ?_⟩
    have ok := hF.ok
    have c4 := ok.c4
    refine s_asgL (xs := ((List.range F.cnt).filter fun _ => true).map fun _ => V.non) (el_lcR (fun _ => true) (fun _ => V.non) (ea_cons (ev_f0 (ev_var rfl) hF) ea_nil) (by omega) (fun _ _ _ _ => et_yes) (fun _ _ _ _ _ => ev_c)) fun p H1 np e1 hp => ?_
    rw [filter_true] at hp
    have hsz0 : SzAt ((List.range F.cnt).map fun _ => V.non) (List.replicate F.cnt false) := ⟨by rw [List.length_map, List.length_range, List.length_replicate], fun s v hv => by
      obtain ⟨_, _, rfl⟩ := map_get hv
      refine .inl ⟨?_, rfl⟩
      rw [List.getD_eq_getElem?_getD, List.getElem?_replicate]
      split <;> rfl⟩
    have hF1 := hF.ex e1
    refine s_forR1 (n := ((F.cnt + 1 : Nat) : Int)) (ea_cons (ev_is (ev_op (ev_f0 (ev_var rfl) hF1) ev_c rv_I0) (by show V.int _ = V.int _; rw [Int.natCast_succ])) ea_nil) (by omega) (fun i σ' H' => ∃ (us : List V) (bs : List Bool) (y2 y3 y4 y5 : Option V), σ' = [some (.ref f), some (.ref p), y2, y3, y4, y5, none] ∧ Ex H H' ∧ H' p = some (.lst us) ∧ SzAt us bs ∧ bs.length = F.cnt ∧ (∀ s, bs.getD s false = true → Filled F s) ∧ (closedB F bs ∨ nF bs + i ≤ F.cnt))
      (fun H2 e2 => ⟨_, _, none, none, none, none, rfl, e1.trans e2, e2 _ _ hp, hsz0, List.length_replicate, fun s hs => ?_, .inr ?_⟩) (fun i σ' H2 hi hW => ?_) (fun σ' H2 hW => ?_)
    · rw [List.getD_eq_getElem?_getD, List.getElem?_replicate] at hs
      split at hs <;> cases hs
    · have := nF_le (List.replicate F.cnt false)
      rw [List.length_replicate] at this
      omega
    · obtain ⟨us0, bs0, y2, y3, y4, y5, rfl, eH, hp2, hz0, hl0, hs0, hpr⟩ := hW
      refine s_asg ev_c fun H3 e3 => ?_
      have eH3 := eH.trans e3
      refine s_forT (ev_f2 (ev_var rfl) (hF.ex eH3)) (SqT.of (hF.ex eH3).h2) (fun j σ' H' => ∃ (us : List V) (bs : List Bool) (ch : Bool) (y4 y5 : Option V), σ' = [some (.ref f), some (.ref p), some (.int i), some (.bl ch), y4, y5, none] ∧ Ex H H' ∧ H' p = some (.lst us) ∧ SzAt us bs ∧ bs.length = F.cnt ∧ (∀ s, bs.getD s false = true → Filled F s) ∧
          ((ch = true ∧ nF bs + 1 ≤ nF bs0 ∧ ¬ closedB F bs0) ∨ (bs = bs0 ∧ ∀ x ∈ F.vs.take j, canB x bs0 = true → bs0.getD x.plug false = true)))
        (fun H4 e4 => ⟨us0, bs0, false, _, _, rfl, eH3.trans e4, e4 _ _ (e3 _ _ hp2), hz0, hl0, hs0, .inr ⟨rfl, fun x hx => absurd (show x ∈ ([] : List Var) from hx) List.not_mem_nil⟩⟩) (fun j σ' H' _ hW => SqT.of (by obtain ⟨_, _, _, _, _, _, z, _⟩ := hW; exact z _ _ hF.h2)) (fun j v σ' H4 hx hW => ?_) (fun σ' H4 hW => ?_)
      · obtain ⟨us, bs, ch, y4, y5, rfl, eH4, hp4, hz, hl, hs, hor⟩ := hW
        obtain ⟨x, hx', rfl⟩ := FamAt.vs F L hx
        have hv4 := (hF.ex eH4).h3 j x hx'
        have hpl := ok.pl x (get_mem hx')
        have htk : F.vs.take (j + 1) = F.vs.take j ++ [x] := by rw [List.take_add_one, hx'] <;> rfl
        refine s_asgX (ex_lsize (ev_var rfl) (ev_var rfl) hv4 hp4 hz (fun t ht => by rw [hl]; exact ok.sl x (get_mem hx') t ht)) fun u H5 e5 hu => ?_
        have hv5 := hv4.ex e5
        have hp5 := e5 _ _ hp4
        obtain ⟨o, ho, hso⟩ := hz.get (s := x.plug) (by rw [hl]; exact hpl)
        have eH5 := eH4.trans e5
        have npH : H p = none := np
        have evo : ∀ {H6 : Hp}, Ex H5 H6 → Ev (tOp (rIxL K) (tVar 1) (tOp (rIxT K) (tVar 4) (tC (.int 0)))) [some (.ref f), some (.ref p), some (.int (i : Int)), some (.bl ch), some (.ref (L.va j)), some u, none] H6 o := fun e => ev_ixL (ev_var rfl) (ev_v0 (ev_var rfl) (hv5.ex e)) (e _ _ hp5) ho
        cases hcan : canB x bs with
        | false =>
          rw [hcan] at hu
          refine s_ifAnd (a := false) (et_is (et_test (ev_notN (ev_var rfl))) hu.nonN) (fun z => nomatch z) (fun _ H6 e6 => ⟨us, bs, ch, _, _, rfl, eH5.trans e6, e6 _ _ hp5, hz, hl, hs, ?_⟩)
          rcases hor with h | ⟨rfl, h⟩
          · exact .inl h
          · refine .inr ⟨rfl, fun y hy hc => ?_⟩
            rw [htk] at hy
            rcases List.mem_append.mp hy with hy | hy
            · exact h y hy hc
            · rw [List.mem_singleton] at hy
              rw [hy, hcan] at hc
              cases hc
        | true =>
          rw [hcan] at hu
          rcases hu with ⟨z, _⟩ | ⟨_, n, rfl⟩
          · cases z
          have hfill := canB_sound hs (get_mem hx') hcan
          have hge : bs[x.plug]? = some (bs.getD x.plug false) := get_of_lt (by rw [hl]; exact hpl)
          rcases hso with ⟨hbf, rfl⟩ | ⟨hbt, m, rfl⟩
          · refine s_if (b := true) (et_is (et_and (et_test (ev_notN (ev_var rfl))) (b := true) fun _ => et_is (et_or (b := true) (et_test (ev_isN (evo (Ex.refl H5)))) fun z => by cases z) rfl) rfl) (fun _ H6 e6 => ?_) (fun z => nomatch z)
            refine s_setL (e6 _ _ hp5) (ev_var rfl) (ev_var rfl) (ev_v0 (ev_var rfl) (hv5.ex e6)) (by rw [hz.len, hl]; exact hpl) fun H7 e7 => ?_
            dsimp only
            refine s_asg ev_c fun H8 e8 => ?_
            refine ⟨us.set x.plug (.int n), bs.set x.plug true, true, _, _, rfl, (Ex.mut (eH5.trans (e6.trans e7)) npH).trans e8, e8 _ _ upd_same, hz.set (by rw [hl]; exact hpl) (.inr ⟨rfl, n, rfl⟩), by rw [List.length_set]; exact hl, fun s' hs' => ?_, .inl ⟨rfl, ?_, ?_⟩⟩
            · rcases (getD_set (by rw [hl]; exact hpl)).mp hs' with rfl | h
              · exact hfill
              · exact hs s' h
            · rw [hbf] at hge
              have h1 := nF_set hge
              rcases hor with ⟨_, h2, _⟩ | ⟨rfl, _⟩
              · omega
              · omega
            · rcases hor with ⟨_, _, h⟩ | ⟨rfl, _⟩
              · exact h
              · intro hcl
                have := hcl x (get_mem hx') hcan
                rw [hbf] at this
                cases this
          · have hstep : (ch = true ∧ nF bs + 1 ≤ nF bs0 ∧ ¬ closedB F bs0) ∨ (bs = bs0 ∧ ∀ y ∈ F.vs.take (j + 1), canB y bs0 = true → bs0.getD y.plug false = true) := by
              rcases hor with h | ⟨rfl, h⟩
              · exact .inl h
              · refine .inr ⟨rfl, fun y hy hc => ?_⟩
                rw [htk] at hy
                rcases List.mem_append.mp hy with hy | hy
                · exact h y hy hc
                · rw [List.mem_singleton] at hy
                  rw [hy]
                  exact hbt
            refine s_if (b := decide (n < m)) (et_is (et_and (et_test (ev_notN (ev_var rfl))) (b := decide (n < m)) fun _ => et_is (et_or (et_test (ev_isN (evo (Ex.refl H5)))) fun _ => et_test (ev_op (ev_var rfl) (evo (Ex.refl H5)) rv_I0)) rfl) rfl) (fun _ H6 e6 => ?_) (fun _ H6 e6 => ⟨us, bs, ch, _, _, rfl, eH5.trans e6, e6 _ _ hp5, hz, hl, hs, hstep⟩)
            refine s_setL (e6 _ _ hp5) (ev_var rfl) (ev_var rfl) (ev_v0 (ev_var rfl) (hv5.ex e6)) (by rw [hz.len, hl]; exact hpl) fun H7 e7 => ?_
            dsimp only
            refine s_asg ev_c fun H8 e8 => ?_
            have hset : bs.set x.plug true = bs := by
              refine List.ext_getElem? fun k => ?_
              by_cases e : k = x.plug
              · subst e
                rw [List.getElem?_set_self (by rw [hl]; exact hpl), hge, hbt]
              · rw [List.getElem?_set_ne (fun z => e z.symm)]
            refine ⟨us.set x.plug (.int n), bs, true, _, _, rfl, (Ex.mut (eH5.trans (e6.trans e7)) npH).trans e8, e8 _ _ upd_same, by rw [← hset]; exact hz.set (by rw [hl]; exact hpl) (.inr ⟨rfl, n, rfl⟩), hl, hs, ?_⟩
            rcases hstep with ⟨_, h⟩ | h
            · exact .inl ⟨rfl, h⟩
            · exact .inr h
      · obtain ⟨us, bs, ch, y4, y5, rfl, eH4, hp4, hz, hl, hs, hor⟩ := hW
        rw [List.length_map, List.length_range, List.take_length] at hor
        have hnext : closedB F bs ∨ nF bs + (i + 1) ≤ F.cnt := by
          rcases hor with ⟨_, h1, h2⟩ | ⟨rfl, h⟩
          · rcases hpr with h3 | h3
            · exact absurd h3 h2
            · exact .inr (by omega)
          · exact .inl h
        refine s_if (et_not (et_B (ev_var rfl))) (fun hb H5 e5 => ?_) (fun hb H5 e5 => ⟨us, bs, _, _, _, _, rfl, eH4.trans e5, e5 _ _ hp4, hz, hl, hs, hnext⟩)
        have hcl : closedB F bs := by
          rcases hor with ⟨h1, _⟩ | ⟨rfl, h⟩
          · rw [h1] at hb
            cases hb
          · exact h
        dsimp only [L2.tBreak]
        exact s_ret (ev_var rfl) fun H6 e6 => q p us bs H6 (eH4.trans (e5.trans e6)) (e6 _ _ (e5 _ _ hp4)) hz (fill_end ok hl hs hcl)
    · obtain ⟨us, bs, y2, y3, y4, y5, rfl, eH, hp2, hz, hl, hs, hpr⟩ := hW
      rw [Int.toNat_natCast] at hpr
      have hcl : closedB F bs := hpr.resolve_right (by omega)
      exact s_ret (ev_var rfl) fun H6 e6 => q p us bs H6 (eH.trans e6) (e6 _ _ hp2) hz (fill_end ok hl hs hcl)
end
end S
end

section
set_option Elab.async false
set_option linter.all false
set_option autoImplicit false
set_option maxRecDepth 100000
set_option maxHeartbeats 4000000
namespace S
open PySem PySem.Spec PyProof.Rows L2 Evl
section
variable {P : Program} {w : World} {K : PySem.W.Frag} {mg : Str → Option Value} {base : Heap}
/-! ### _law_useful -/
theorem sc_law_useful : FnScope ["_law_family_here", "_law_sizes_here", "_law_reached", "_law_found_here", "_law_turn", "_law_before", "_law_number", "_law_variant", "_law_state"] ["_law_family_here"] (defScope (top 49)) := ⟨rfl, rfl, rfl, by decide +kernel, rfl, by decide +kernel, by decide +kernel⟩
-- slots: 0 _law_family_here, 1 _law_sizes_here, 2 _law_reached, 3 _law_found_here, 4 _law_turn, 5 _law_before, 6 _law_number, 7 _law_variant, 8 _law_state

def spLUseful : Sp := fun vs H Q _ => ∃ (f : Addr) (L : Lay) (F : Fam), vs = [.ref f] ∧ FamAt H f L F ∧ ∀ p us H', Ex H H' → H' p = some (.lst (us.map nV)) → UsefulL F us → Q (.ref p) H'
/-- the reached ones so far: nodup, reached, the roots among them -/
structure Rch (F : Fam) (rs : List Nat) : Prop where
  nd : rs.Nodup
  so : ∀ s ∈ rs, Reached F s
  ro : ∀ r ∈ F.roots, r ∈ rs
theorem Rch.len {F : Fam} (ok : F.Ok) {rs : List Nat} (h : Rch F rs) : rs.length ≤ F.cnt := nodup_le h.nd fun s hs => (h.so s hs).lt ok
theorem Rch.snoc {F : Fam} {rs : List Nat} {s : Nat} (h : Rch F rs) (hs : s ∉ rs) (hr : Reached F s) : Rch F (rs ++ [s]) := ⟨List.nodup_append.mpr ⟨h.nd, List.nodup_cons.mpr ⟨List.not_mem_nil, List.nodup_nil⟩, fun a ha b hb z => by
  rw [List.mem_singleton] at hb
  rw [z, hb] at ha
  exact hs ha⟩, fun t ht => (List.mem_append.mp ht).elim (h.so t) fun z => by rw [List.mem_singleton.mp z]; exact hr, fun r hr' => List.mem_append_left _ (h.ro r hr')⟩
theorem ok_law_useful (T : Txt K mg) : Good P w K mg base CX0 3 "_law_useful" ["_law_family_here"] spLUseful := by
  have G_law_sizes : Good P w K mg base CX0 2 "_law_sizes" ["_law_family_here"] spLSizes := ok_law_sizes T
  have G_law_size : Good P w K mg base CX0 2 "_law_size" ["_law_variant", "_law_sizes_here"] spLSize := (ok_law_size T).mono (by decide)
  refine Good.of T (j := 35) (i := 49) rfl rfl sc_law_useful (fun _ _ _ _ _ _ us hl => match us, hl with | [_], _ => rfl) (fun vs H Q E h => ?_) (fun cdv A outer s H vs Q E hr h => ?_)
  · obtain ⟨f, L, F, rfl, _⟩ := h
    rfl
  · obtain ⟨f, L, F, rfl, hF, q⟩ := h
    refine ⟨_, (pss_cons (ps_set (i := 1) sc_law_useful.nd rfl (.inl rfl) (pe_c G_law_sizes hr (pa_cons (pv 0) pa_nil)))
(pss_cons (ps_set (i := 2) sc_law_useful.nd rfl (.inl rfl) (pe_callTy call_list_of (by rfl) T.m_list (by decide +kernel) (pa_cons (pe_ix ix_tup (pv 0) pe_int (fun _ _ => rfl)) pa_nil)))
(pss_cons (ps_set (i := 3) sc_law_useful.nd rfl (.inl rfl) (pe_lst pa_nil))
(pss_cons (ps_for PassesOwn.never rfl (pi_range1 (by rfl) T.m_range (pa_cons (pe_op op_add (pe_ix ix_tup (pv 0) pe_int (fun _ _ => rfl)) pe_int) pa_nil)) (pg_name (i := 4) sc_law_useful.nd rfl (.inl rfl))
(pss_cons (ps_set (i := 5) sc_law_useful.nd rfl (.inl rfl) (pe_callB call_len_seq (by rfl) T.m_len PySem.boot_len (pa_cons (pv 2) pa_nil)))
(pss_cons (ps_set (i := 3) sc_law_useful.nd rfl (.inl rfl) (pe_lst pa_nil))
(pss_cons (ps_for PassesOwn.never rfl (pi_range1 (by rfl) T.m_range (pa_cons (pe_callB call_len_seq (by rfl) T.m_len PySem.boot_len (pa_cons (pe_ix ix_tup (pv 0) pe_int (fun _ _ => rfl)) pa_nil)) pa_nil)) (pg_name (i := 6) sc_law_useful.nd rfl (.inl rfl))
(pss_cons (ps_set (i := 7) sc_law_useful.nd rfl (.inl rfl) (pe_ix ix_tup (pe_ix ix_tup (pv 0) pe_int (fun _ _ => rfl)) (pv 6) (fun _ _ => rfl)))
(pss_one (ps_if (PW.pt (pw_and (pt_cmpR op_in_seq (pe_ix ix_tup (pv 7) pe_int (fun _ _ => rfl)) (pv 2) (by rfl)) (pw_and1 (pt_cmpR op_notN (pe_c G_law_size hr (pa_cons (pv 7) (pa_cons (pv 1) pa_nil))) pe_non (nomark _)))))
(pss_cons (ps_expr (pe_bm PySem.F.plainAttrs_list PySem.F.slot_list_append PySem.F.type_list_append mt_append (pv 3) (pa_cons (pv 6) pa_nil)))
(pss_one (ps_for PassesOwn.never rfl (pi_tup (pe_ix ix_tup (pv 7) pe_int (fun _ _ => rfl))) (pg_name (i := 8) sc_law_useful.nd rfl (.inl rfl))
(pss_one (ps_if (pt_cmpR op_notIn_seq (pv 8) (pv 2) (by rfl))
(pss_one (ps_expr (pe_bm PySem.F.plainAttrs_list PySem.F.slot_list_append PySem.F.type_list_append mt_append (pv 2) (pa_cons (pv 8) pa_nil)))) pss_nil))))) pss_nil))))
(pss_one (ps_if (pt_cmpR op_eq (pe_callB call_len_seq (by rfl) T.m_len PySem.boot_len (pa_cons (pv 2) pa_nil)) (pv 5) (nomark _))
(pss_one (ps_break)) pss_nil))))))
(pss_one (ps_ret (pv 3))))))), ?_⟩
    have ok := hF.ok
    have c4 := ok.c4
    have v12 := ok.v12
    refine s_asgX (P := fun v H' => ∃ p us bs, v = .ref p ∧ H' p = some (.lst us) ∧ SzAt us bs ∧ FillOk F bs) (ex_call (ea_cons (ev_var rfl) ea_nil) fun H1 e1 Q1 k1 E1 => ⟨f, L, F, rfl, hF.ex e1, fun p us bs H' e' h1 h2 h3 => k1 _ H' e' ⟨p, us, bs, rfl, h1, h2, h3⟩⟩) fun v H1 e1 hv => ?_
    obtain ⟨p, us, bs, rfl, hp, hz, hbs⟩ := hv
    have hF1 := hF.ex e1
    refine s_asgL (el_listT (et_of (ev_f1 (ev_var rfl) hF1) hF1.h1)) fun ra H2 nra e2 hra => ?_
    refine s_asgL (el_lst ea_nil (by decide)) fun fa H3 nfa e3 hfa => ?_
    have e13 := e1.trans (e2.trans e3)
    have nraH := fresh_back e1 nra
    have nfaH := fresh_back (e1.trans e2) nfa
    refine s_forR1 (n := ((F.cnt + 1 : Nat) : Int)) (ea_cons (ev_is (ev_op (ev_f0 (ev_var rfl) (hF.ex e13)) ev_c rv_I0) (by show V.int _ = V.int _; rw [Int.natCast_succ])) ea_nil) (by omega) (fun i σ' H' => ∃ (fa : Addr) (rs : List Nat) (y4 y5 y6 y7 y8 : Option V), σ' = [some (.ref f), some (.ref p), some (.ref ra), some (.ref fa), y4, y5, y6, y7, y8] ∧ Ex H H' ∧ H' p = some (.lst us) ∧ H' ra = some (.lst (rs.map nV)) ∧ Rch F rs ∧ i ≤ rs.length)
      (fun H4 e4 => ⟨fa, F.roots, none, none, none, none, none, rfl, e13.trans e4, e4 _ _ (e3 _ _ (e2 _ _ hp)), e4 _ _ (e3 _ _ hra), ⟨ok.rn, fun s hs => .root hs, fun r hr => hr⟩, Nat.zero_le _⟩) (fun i σ' H4 hi hW => ?_) (fun σ' H4 hW => ?_)
    · obtain ⟨fa0, rs0, y4, y5, y6, y7, y8, rfl, eH, hp4, hra4, hR0, hi0⟩ := hW
      refine s_asg (v := nV rs0.length) (ev_is (ev_lenL (ev_var rfl) hra4) (by rw [List.length_map])) fun H5 e5 => ?_
      refine s_asgL (el_lst ea_nil (by decide)) fun fa H6 nfa e6 hfa => ?_
      have eH6 := eH.trans (e5.trans e6)
      have nfaH := fresh_back (eH.trans e5) nfa
      have e46 := e5.trans e6
      have hfra : fa ≠ ra := fun z => by
        have := e5 _ _ hra4
        rw [← z, nfa] at this
        cases this
      have hF6 := hF.ex eH6
      have hpp : H p = none ∨ True := .inr trivial
      refine s_forR1 (n := ((F.vs.length : Nat) : Int)) (ea_cons (ev_is (ev_lenT (et_of (ev_f2 (ev_var rfl) hF6) hF6.h2)) (by rw [List.length_map, List.length_range] <;> rfl)) ea_nil) (by omega) (fun k σ' H' => ∃ (rs fs : List Nat) (y6 y7 y8 : Option V), σ' = [some (.ref f), some (.ref p), some (.ref ra), some (.ref fa), some (.int (i : Int)), some (nV rs0.length), y6, y7, y8] ∧ Ex H H' ∧ H' p = some (.lst us) ∧ H' ra = some (.lst (rs.map nV)) ∧ H' fa = some (.lst (fs.map nV)) ∧ Rch F rs ∧ fs.length ≤ k ∧
          (rs0.length < rs.length ∨ (rs = rs0 ∧ (∀ n, n ∈ fs ↔ n < k ∧ ∃ x, F.vs[n]? = some x ∧ x.plug ∈ rs0 ∧ Can F x) ∧ ∀ n x, n < k → F.vs[n]? = some x → x.plug ∈ rs0 → Can F x → ∀ t ∈ x.slots, t ∈ rs0)))
        (fun H7 e7 => ⟨rs0, [], _, _, _, rfl, eH6.trans e7, e7 _ _ (e46 _ _ hp4), e7 _ _ (e46 _ _ hra4), e7 _ _ hfa, hR0, Nat.le_refl _, .inr ⟨rfl, fun n => ⟨fun z => absurd z List.not_mem_nil, fun z => absurd z.1 (Nat.not_lt_zero _)⟩, fun n x z => absurd z (Nat.not_lt_zero _)⟩⟩) (fun k σ' H7 hk hW => ?_) (fun σ' H7 hW => ?_)
      · obtain ⟨rs, fs, y6, y7, y8, rfl, eH7, hp7, hra7, hfa7, hR, hfl, hor⟩ := hW
        have hkl : k < F.vs.length := by omega
        obtain ⟨x, hx⟩ : ∃ x, F.vs[k]? = some x := ⟨_, List.getElem?_eq_getElem hkl⟩
        have hF7 := hF.ex eH7
        refine s_asg (ev_ixT (i := k) (ev_f2 (ev_var rfl) hF7) (ev_var rfl) hF7.h2 (FamAt.at F L hkl)) fun H8 e8 => ?_
        have hv8 := (hF7.ex e8).h3 k x hx
        have hra8 := e8 _ _ hra7
        have hp8 := e8 _ _ hp7
        have eH8 := eH7.trans e8
        have hcan := hbs.can ok (get_mem hx)
        have tst : EvT (tAnd (tTest (tOp (rIn K false) (tOp (rIxT K) (tVar 7) (tC (.int 0))) (tVar 2))) (tTest (tOp (fun x y H Q => y = .non ∧ Q (.bl (!decide (x = .non))) H) (tCall spLSize [] E0 (tCons (tVar 7) (tCons (tVar 1) tNil))) (tC .non)))) [some (.ref f), some (.ref p), some (.ref ra), some (.ref fa), some (.int (i : Int)), some (nV rs0.length), some (.int (k : Int)), some (.ref (L.va k)), y8] H8 (decide (x.plug ∈ rs) && canB x bs) :=
          et_and (et_test (ev_inL (s := x.plug) (ev_v0 (ev_var rfl) hv8) (ev_var rfl) hra8)) fun _ => fun H9 e9 Q9 k9 => ex_lsize (ev_var rfl) (ev_var rfl) hv8 hp8 hz (fun t ht => by rw [hbs.len]; exact ok.sl x (get_mem hx) t ht) H9 e9 _ fun v H10 e10 hv => ⟨rfl, _, rfl, by rw [hv.nonN]; exact k9 H10 e10⟩
        refine s_if tst (fun hb H9 e9 => ?_) (fun hb H9 e9 => ?_)
        · obtain ⟨b1, b2⟩ := Bool.and_eq_true_iff.mp hb
          have hpr := of_decide_eq_true b1
          have hca := hcan.mp b2
          have hreach : ∀ t ∈ x.slots, Reached F t := fun t ht => .step (hR.so _ hpr) (get_mem hx) hca ht
          refine s_appE (v := nV k) (e9 _ _ (e8 _ _ hfa7)) (ev_var rfl) (ev_var rfl) (by rw [List.length_map]; omega) fun H10 e10 => ?_
          have e810 := e9.trans e10
          have eH10 := Ex.mut (o := .lst (fs.map nV ++ [nV k])) (eH8.trans e810) nfaH
          have hra10 : (upd H10 fa (.lst (fs.map nV ++ [nV k]))) ra = some (.lst (rs.map nV)) := by rw [upd_ne (fun z => hfra z.symm)]; exact e810 _ _ hra8
          have hfa10 : (upd H10 fa (.lst (fs.map nV ++ [nV k]))) fa = some (.lst ((fs ++ [k]).map nV)) := by rw [upd_same, List.map_append] <;> rfl
          have hpfa : p ≠ fa := fun z => by
            have := e5 _ _ hp4
            rw [z, nfa] at this
            cases this
          have hp10 : (upd H10 fa (.lst (fs.map nV ++ [nV k]))) p = some (.lst us) := by rw [upd_ne hpfa]; exact e810 _ _ hp8
          generalize upd H10 fa (.lst (fs.map nV ++ [nV k])) = H11 at *
          have hv11 := (hF.ex eH10).h3 k x hx
          have hpra : p ≠ ra := fun z => by rw [z] at hp; rw [hp] at nra; cases nra
          refine s_forT (ev_v1 (ev_var rfl) hv11) (SqT.of hv11.hs) (fun j σ' H' => ∃ (rs' : List Nat) (y8 : Option V), σ' = [some (.ref f), some (.ref p), some (.ref ra), some (.ref fa), some (.int (i : Int)), some (nV rs0.length), some (.int (k : Int)), some (.ref (L.va k)), y8] ∧ Ex H H' ∧ H' p = some (.lst us) ∧ H' ra = some (.lst (rs'.map nV)) ∧ H' fa = some (.lst ((fs ++ [k]).map nV)) ∧ Rch F rs' ∧
              (rs.length < rs'.length ∨ (rs' = rs ∧ ∀ t ∈ x.slots.take j, t ∈ rs)))
            (fun H12 e12 => ⟨rs, _, rfl, eH10.trans e12, e12 _ _ hp10, e12 _ _ hra10, e12 _ _ hfa10, hR, .inr ⟨rfl, fun t ht => absurd (show t ∈ ([] : List Nat) from ht) List.not_mem_nil⟩⟩) (fun j σ' H' _ hW => SqT.of (by obtain ⟨_, _, _, z, _⟩ := hW; exact z _ _ (hF.h3 k x hx).hs)) (fun j v σ' H12 hxj hW => ?_) (fun σ' H12 hW => ?_)
          · obtain ⟨rs', y8, rfl, eH12, hp12, hra12, hfa12, hR', hor'⟩ := hW
            obtain ⟨t, ht, rfl⟩ := map_get hxj
            have htk : x.slots.take (j + 1) = x.slots.take j ++ [t] := by rw [List.take_add_one, ht] <;> rfl
            refine s_if (et_test (ev_niL (s := t) (ev_var rfl) (ev_var rfl) hra12)) (fun hb2 H13 e13 => ?_) (fun hb2 H13 e13 => ⟨rs', _, rfl, eH12.trans e13, e13 _ _ hp12, e13 _ _ hra12, e13 _ _ hfa12, hR', ?_⟩)
            · have htn : t ∉ rs' := by simpa using hb2
              have := hR'.len ok
              refine s_appE (v := nV t) (e13 _ _ hra12) (ev_var rfl) (ev_var rfl) (by rw [List.length_map]; omega) fun H14 e14 => ?_
              refine ⟨rs' ++ [t], _, rfl, Ex.mut (eH12.trans (e13.trans e14)) nraH, by rw [upd_ne hpra]; exact e14 _ _ (e13 _ _ hp12), by rw [upd_same, List.map_append] <;> rfl, by rw [upd_ne hfra]; exact e14 _ _ (e13 _ _ hfa12), hR'.snoc htn (hreach t (get_mem ht)), .inl ?_⟩
              rw [List.length_append]
              show _ < rs'.length + 1
              rcases hor' with h | ⟨rfl, _⟩
              · omega
              · omega
            · have htm : t ∈ rs' := by simpa using hb2
              rcases hor' with h | ⟨rfl, h⟩
              · exact .inl h
              · refine .inr ⟨rfl, fun t' ht' => ?_⟩
                rw [htk] at ht'
                rcases List.mem_append.mp ht' with z | z
                · exact h t' z
                · rw [List.mem_singleton.mp z]
                  exact htm
          · obtain ⟨rs', y8, rfl, eH12, hp12, hra12, hfa12, hR', hor'⟩ := hW
            rw [List.length_map, List.take_length] at hor'
            refine ⟨rs', fs ++ [k], _, _, _, rfl, eH12, hp12, hra12, hfa12, hR', by rw [List.length_append]; show fs.length + 1 ≤ k + 1; omega, ?_⟩
            rcases hor with h | ⟨rfl, h1, h2⟩
            · refine .inl ?_
              rcases hor' with h' | ⟨rfl, _⟩ <;> omega
            · rcases hor' with h' | ⟨rfl, h'⟩
              · exact .inl h'
              · refine .inr ⟨rfl, fun n => ?_, fun n y hn hy hyp hyc => ?_⟩
                · rw [List.mem_append, h1, List.mem_singleton]
                  constructor
                  · rintro (⟨z1, z2⟩ | rfl)
                    · exact ⟨by omega, z2⟩
                    · exact ⟨by omega, x, hx, hpr, hca⟩
                  · rintro ⟨z1, z2⟩
                    by_cases e : n = k
                    · exact .inr e
                    · exact .inl ⟨by omega, z2⟩
                · by_cases e : n = k
                  · subst e
                    rw [hx] at hy
                    rw [← Option.some.inj hy]
                    exact h'
                  · exact h2 n y (by omega) hy hyp hyc
        · have eH9 := eH8.trans e9
          refine ⟨rs, fs, _, _, _, rfl, eH9, e9 _ _ hp8, e9 _ _ hra8, e9 _ _ (e8 _ _ hfa7), hR, by omega, ?_⟩
          rcases hor with h | ⟨rfl, h1, h2⟩
          · exact .inl h
          · have hnot : ∀ y, F.vs[k]? = some y → y.plug ∈ rs → Can F y → False := fun y hy h3 h4 => by
              rw [hx] at hy
              have := Option.some.inj hy
              subst this
              rw [decide_eq_true h3, hcan.mpr h4] at hb
              cases hb
            refine .inr ⟨rfl, fun n => ?_, fun n y hn hy hyp hyc => ?_⟩
            · rw [h1]
              constructor
              · rintro ⟨z1, z2⟩
                exact ⟨by omega, z2⟩
              · rintro ⟨z1, y, z2, z3, z4⟩
                by_cases e : n = k
                · subst e
                  exact (hnot y z2 z3 z4).elim
                · exact ⟨by omega, y, z2, z3, z4⟩
            · by_cases e : n = k
              · subst e
                exact (hnot y hy hyp hyc).elim
              · exact h2 n y (by omega) hy hyp hyc
      · obtain ⟨rs, fs, y6, y7, y8, rfl, eH7, hp7, hra7, hfa7, hR, hfl, hor⟩ := hW
        rw [Int.toNat_natCast] at hor hfl
        refine s_if (b := decide (V.int ((rs.map nV).length : Int) = V.int (rs0.length : Int))) (et_test (ev_op (ev_lenL (ev_var rfl) hra7) (ev_var rfl) (rv_eq rfl))) (fun hb H8 e8 => ?_) (fun hb H8 e8 => ⟨fa, rs, _, _, _, _, _, rfl, eH7.trans e8, e8 _ _ hp7, e8 _ _ hra7, hR, ?_⟩)
        · have hlen : rs.length = rs0.length := by
            have := V.int.inj (of_decide_eq_true hb)
            rw [List.length_map] at this
            omega
          rcases hor with h | ⟨rfl, h1, h2⟩
          · omega
          · dsimp only [L2.tBreak]
            have hall : ∀ s, Reached F s → s ∈ rs := fun s hs => by
              induction hs with
              | root hr => exact hR.ro _ hr
              | @step x t hr hx hc ht ih =>
                obtain ⟨n, hn⟩ := List.getElem?_of_mem hx
                exact h2 n x (get_lt hn) hn ih hc t ht
            refine s_ret (ev_var rfl) fun H9 e9 => q fa fs H9 (eH7.trans (e8.trans e9)) (e9 _ _ (e8 _ _ hfa7)) ⟨fun n => ?_, hfl⟩
            rw [h1]
            constructor
            · rintro ⟨_, x, z1, z2, z3⟩
              exact ⟨x, z1, hR.so _ z2, z3⟩
            · rintro ⟨x, z1, z2, z3⟩
              exact ⟨get_lt z1, x, z1, hall _ z2, z3⟩
        · rcases hor with h | ⟨rfl, _⟩
          · omega
          · rw [List.length_map] at hb
            exact absurd rfl (of_decide_eq_false hb)
    · obtain ⟨fa0, rs0, y4, y5, y6, y7, y8, rfl, eH, hp4, hra4, hR0, hi0⟩ := hW
      rw [Int.toNat_natCast] at hi0
      have := hR0.len ok
      omega
end
end S
end

section
set_option Elab.async false
set_option linter.all false
set_option autoImplicit false
set_option maxRecDepth 100000
set_option maxHeartbeats 4000000
namespace S
open PySem PySem.Spec PyProof.Rows L2 Evl
section
variable {P : Program} {w : World} {K : PySem.W.Frag} {mg : Str → Option Value} {base : Heap}
/-! ### _law_steps -/
/-- for .. over a list that an evaluation gives -/
theorem s_forLX {σ : L2.St} {H : Hp} {tl : TE} {g : TG} {tu : TS} {D : Ends} {Pt : Addr → List V → Hp → Prop} (h : EX tl σ H (fun v H' => ∃ a xs, v = .ref a ∧ H' a = some (.lst xs) ∧ Pt a xs H'))
    (k : ∀ a xs H1, Ex H H1 → H1 a = some (.lst xs) → Pt a xs H1 → ∃ Pv : Nat → L2.St → Hp → Prop, Pv 0 σ H1 ∧ (∀ i σ' H', i ≤ xs.length → Pv i σ' H' → SqL K H' a xs) ∧
      (∀ i x σ' H', xs[i]? = some x → Pv i σ' H' → g x σ' H' fun σ2 H2 => tu { D with nx := Pv (i + 1), ct := Pv (i + 1), bk := D.nx } σ2 H2) ∧ (∀ σ' H', Pv xs.length σ' H' → D.nx σ' H')) : tFor (iList K tl) g tu D σ H :=
  h H (Ex.refl H) _ fun v H1 e hv => by
    obtain ⟨a, xs, rfl, hx, hp⟩ := hv
    obtain ⟨Pv, h0, hl, hs, hd⟩ := k a xs H1 e hx hp
    exact ⟨a, rfl, ⟨xs, SqL.of hx⟩, for_list Pv h0 hl hs hd⟩
theorem ref_ne_nat {l : List Addr} {us : List Nat} {n : Nat} (h : n ∈ us) : l.map V.ref ≠ us.map nV := fun z => by
  cases us with
  | nil => exact absurd h List.not_mem_nil
  | cons a r =>
    cases l with
    | nil => cases z
    | cons b q => injection z with z1 _; cases z1
theorem sc_law_steps : FnScope ["_law_family_here", "_law_steps_here", "_law_number", "_law_variant", "_law_slot"] ["_law_family_here"] (defScope (top 51)) := ⟨rfl, rfl, rfl, by decide +kernel, rfl, by decide +kernel, by decide +kernel⟩
-- slots: 0 _law_family_here, 1 _law_steps_here, 2 _law_number, 3 _law_variant, 4 _law_slot

theorem ok_law_steps (T : Txt K mg) : Good P w K mg base CX0 4 "_law_steps" ["_law_family_here"] spSteps := by
  have G_law_useful : Good P w K mg base CX0 3 "_law_useful" ["_law_family_here"] spLUseful := ok_law_useful T
  refine Good.of T (j := 37) (i := 51) rfl rfl sc_law_steps (fun _ _ _ _ _ _ us hl => match us, hl with | [_], _ => rfl) (fun vs H Q E h => ?_) (fun cdv A outer s H vs Q E hr h => ?_)
  · obtain ⟨f, L, F, rfl, _⟩ := h
    rfl
  · obtain ⟨f, L, F, rfl, hF, q⟩ := h
    refine ⟨_, (pss_cons (ps_set (i := 1) sc_law_steps.nd rfl (.inl rfl) (pe_lst pa_nil))
(pss_cons (ps_for PassesOwn.never rfl (pi_list (pe_c G_law_useful hr (pa_cons (pv 0) pa_nil))) (pg_name (i := 2) sc_law_steps.nd rfl (.inl rfl))
(pss_cons (ps_set (i := 3) sc_law_steps.nd rfl (.inl rfl) (pe_ix ix_tup (pe_ix ix_tup (pv 0) pe_int (fun _ _ => rfl)) (pv 2) (fun _ _ => rfl)))
(pss_one (ps_for PassesOwn.never rfl (pi_range1 (by rfl) T.m_range (pa_cons (pe_callB call_len_seq (by rfl) T.m_len PySem.boot_len (pa_cons (pe_ix ix_tup (pv 3) pe_int (fun _ _ => rfl)) pa_nil)) pa_nil)) (pg_name (i := 4) sc_law_steps.nd rfl (.inl rfl))
(pss_one (ps_expr (pe_bm PySem.F.plainAttrs_list PySem.F.slot_list_append PySem.F.type_list_append mt_append (pv 1) (pa_cons (pe_tup (pa_cons (pe_ix ix_tup (pv 3) pe_int (fun _ _ => rfl)) (pa_cons (pv 2) (pa_cons (pv 4) (pa_cons (pe_ix ix_tup (pe_ix ix_tup (pv 3) pe_int (fun _ _ => rfl)) (pv 4) (fun _ _ => rfl)) pa_nil))))) pa_nil))))))))
(pss_one (ps_ret (pe_callB (cr_sortT (d := 4) (B := 100) (by decide)) (by rfl) T.m_sorted (by decide +kernel) (pa_cons (pv 1) pa_nil)))))), ?_⟩
    have ok := hF.ok
    have v12 := ok.v12
    refine s_asgL (el_lst ea_nil (by decide)) fun b H1 nb e1 hb => ?_
    have hF1 := hF.ex e1
    dsimp only
    refine s_forLX (Pt := fun a xs H' => ∃ us : List Nat, xs = us.map nV ∧ UsefulL F us) (ex_call (ea_cons (ev_var rfl) ea_nil) fun H2 e2 Q q E => ⟨f, L, F, rfl, hF1.ex e2, fun p us H' e' h1 h2 => q _ H' e' ⟨p, _, rfl, h1, us, rfl, h2⟩⟩) fun a xs H2 e2 ha hus => ?_
    obtain ⟨us, rfl, hus⟩ := hus
    refine ⟨fun k σ' H' => ∃ (l : List (Addr × Stp)) (y2 y3 y4 : Option V), σ' = [some (.ref f), some (.ref b), y2, y3, y4] ∧ Ex H H' ∧ H' a = some (.lst (us.map nV)) ∧ StepsAt H' b l ∧ l.length ≤ 3 * k ∧
        (∀ p i j s, HasS l (p, i, j, s) ↔ i ∈ us.take k ∧ StepAt F p i j s), ⟨[], none, none, none, rfl, e1.trans e2, ha, ⟨e2 _ _ hb, fun _ hq => absurd hq List.not_mem_nil⟩, Nat.le_refl _, fun p i j s => ⟨fun ⟨_, z⟩ => absurd z List.not_mem_nil, fun ⟨z, _⟩ => absurd z (by rw [List.take_zero]; exact List.not_mem_nil)⟩⟩,
      fun k σ' H' _ hW => SqL.of (by obtain ⟨_, _, _, _, _, _, z, _⟩ := hW; exact z), fun k x σ' H' hx hW => ?_, fun σ' H' hW => ?_⟩
    · obtain ⟨l, y2, y3, y4, rfl, eH, ha', hl, hln, hm⟩ := hW
      obtain ⟨n, hn, rfl⟩ := map_get hx
      obtain ⟨v, hv, hu⟩ := (hus.mem n).mp (get_mem hn)
      have hFk := hF.ex eH
      have hvr := hFk.h3 n v hv
      have hkl := get_lt hn
      have hul := hus.len
      refine s_asg (ev_ixT (ev_f2 (ev_var rfl) hFk) (ev_var rfl) hFk.h2 (FamAt.at F L (get_lt hv))) fun H3 e3 => ?_
      have hv3 := hvr.ex e3
      have hsl := ok.s3 v (get_mem hv)
      have hba : a ≠ b := fun z => by
        have h1 := hl.h
        rw [← z, ha'] at h1
        have h2 := Option.some.inj h1
        injection h2 with h2
        rw [show (l.map fun q => V.ref q.1) = (l.map fun q => q.1).map V.ref by rw [List.map_map] <;> rfl] at h2
        exact ref_ne_nat (get_mem hn) h2.symm
      refine s_forR1 (n := ((v.slots.length : Nat) : Int)) (ea_cons (ev_is (ev_lenT (et_of (ev_v1 (ev_var rfl) hv3) hv3.hs)) (by rw [List.length_map] <;> rfl)) ea_nil) (by omega) (fun jn σ' H' => ∃ (l2 : List (Addr × Stp)) (y4 : Option V), σ' = [some (.ref f), some (.ref b), some (nV n), some (.ref (L.va n)), y4] ∧ Ex H H' ∧ H' a = some (.lst (us.map nV)) ∧ StepsAt H' b l2 ∧ l2.length ≤ 3 * k + jn ∧
        (∀ p i j s, HasS l2 (p, i, j, s) ↔ (i ∈ us.take k ∧ StepAt F p i j s) ∨ (i = n ∧ j < jn ∧ StepAt F p i j s))) (fun H4 e4 => ⟨l, y4, rfl, eH.trans (e3.trans e4), (e3.trans e4) _ _ ha', hl.ex (e3.trans e4), by omega, fun p i j s => ?_⟩) (fun jn σ' H4 hj hW => ?_) (fun σ' H4 hW => ?_)
      · rw [hm]
        exact ⟨fun h => .inl h, fun h => h.resolve_right fun ⟨_, z, _⟩ => absurd z (Nat.not_lt_zero _)⟩
      · obtain ⟨l2, y4, rfl, eH4, ha4, hl4, hln4, hm4⟩ := hW
        have hj3 : jn < v.slots.length := by omega
        obtain ⟨s, hs⟩ : ∃ s, v.slots[jn]? = some s := ⟨_, List.getElem?_eq_getElem hj3⟩
        have hv4 := (hF.ex eH4).h3 n v hv
        refine s_appT (zs := sV (v.plug, n, jn, s)) hl4.h (ev_var rfl) (et_new (eu_tup (ea_cons (ev_v0 (ev_var rfl) hv4) (ea_cons (ev_var rfl) (ea_cons (ev_var rfl) (ea_cons (ev_ixT (i := jn) (ev_v1 (ev_var rfl) hv4) (ev_var rfl) hv4.hs (get_map hs)) ea_nil)))) (by show 4 ≤ 100000; decide))) (by rw [List.length_map]; omega) fun r H6 e6 hr6 => ?_
        have eH6 := eH4.trans e6
        refine ⟨l2 ++ [(r, (v.plug, n, jn, s))], _, rfl, Ex.mut eH6 nb, by rw [upd_ne hba]; exact e6 _ _ ha4, ⟨by rw [upd_same, List.map_append] <;> rfl, fun qq hq => ?_⟩, by rw [List.length_append]; show l2.length + 1 ≤ _; omega, fun p i j s' => ?_⟩
        · have hne : qq.1 ≠ b := fun z => by
            rcases List.mem_append.mp hq with hq | hq
            · have := hl4.each qq hq
              rw [z, hl4.h] at this
              cases this
            · rw [List.mem_singleton] at hq
              subst hq
              have h7 := (hl4.ex e6).h
              rw [← z] at h7
              have h8 : H6 r = some (.lst (l2.map fun q => V.ref q.1)) := h7
              rw [hr6] at h8
              cases h8
          rw [upd_ne hne]
          rcases List.mem_append.mp hq with hq | hq
          · exact (hl4.ex e6).each qq hq
          · rw [List.mem_singleton] at hq
            subst hq
            exact hr6
        · rw [HasS.snoc, hm4]
          constructor
          · rintro ((h | ⟨h1, h2, h3⟩) | h)
            · exact .inl h
            · exact .inr ⟨h1, by omega, h3⟩
            · injection h with h1 h2
              injection h2 with h2 h3
              injection h3 with h3 h4
              subst h1 h2 h3 h4
              exact .inr ⟨rfl, Nat.lt_succ_self _, v, hv, rfl, hs⟩
          · rintro (h | ⟨h1, h2, h3⟩)
            · exact .inl (.inl h)
            · rcases Nat.lt_succ_iff_lt_or_eq.mp h2 with h2 | h2
              · exact .inl (.inr ⟨h1, h2, h3⟩)
              · subst h1 h2
                obtain ⟨x, hx, hp, hs'⟩ := h3
                rw [hv] at hx
                have := Option.some.inj hx
                subst this
                rw [hs] at hs'
                have := Option.some.inj hs'
                subst this hp
                exact .inr rfl
      · obtain ⟨l2, y4, rfl, eH4, ha4, hl4, hln4, hm4⟩ := hW
        rw [Int.toNat_natCast] at hln4 hm4
        refine ⟨l2, _, _, _, rfl, eH4, ha4, hl4, by omega, fun p i j s => ?_⟩
        rw [hm4, List.take_add_one, hn, List.mem_append]
        constructor
        · rintro (⟨h1, h2⟩ | ⟨h1, h2, h3⟩)
          · exact ⟨.inl h1, h2⟩
          · exact ⟨.inr (by rw [h1]; exact List.mem_singleton.mpr rfl), h3⟩
        · rintro ⟨h1 | h1, h2⟩
          · exact .inl ⟨h1, h2⟩
          · have : i = n := List.mem_singleton.mp h1
            subst this
            obtain ⟨x, hx, hp, hs'⟩ := h2
            rw [hv] at hx
            have := Option.some.inj hx
            subst this
            exact .inr ⟨rfl, get_lt hs', v, hv, hp, hs'⟩
    · obtain ⟨l, y2, y3, y4, rfl, eH, ha', hl, hln, hm⟩ := hW
      rw [List.length_map] at hln hm
      have hul := hus.len
      have hok : StepsOk F l := ⟨fun p i j s => by
        rw [hm, List.take_length]
        constructor
        · rintro ⟨h1, x, hx, hp, hs⟩
          obtain ⟨y, hy, hu⟩ := (hus.mem i).mp h1
          rw [hx] at hy
          have := Option.some.inj hy
          subst this
          exact ⟨x, hx, hu, hp, hs⟩
        · rintro ⟨x, hx, hu, hp, hs⟩
          exact ⟨(hus.mem i).mpr ⟨x, hx, hu⟩, x, hx, hp, hs⟩, by omega⟩
      refine s_retX (ex_sorted (ev_var rfl) hl (by have := hok.len; omega) (hok.small ok)) fun v H3 e3 hv => ?_
      obtain ⟨p', l', rfl, hl', hp⟩ := hv
      exact q p' H3 l' (eH.trans e3) hl' (hok.perm hp)
/-! ### _law_nexts -/
theorem sc_law_nexts : FnScope ["_law_family_here", "_law_nexts_here", "_law_step", "_law_state"] ["_law_family_here"] (defScope (top 52)) := ⟨rfl, rfl, rfl, by decide +kernel, rfl, by decide +kernel, by decide +kernel⟩
-- slots: 0 _law_family_here, 1 _law_nexts_here, 2 _law_step, 3 _law_state

structure NextsOk (F : Fam) (nss : List (List Nat)) : Prop where
  len : nss.length = F.cnt
  nd : ∀ l ∈ nss, l.Nodup
  iff : ∀ s l, nss[s]? = some l → ∀ t, t ∈ l ↔ Edge F s t
def spNexts : Sp := fun vs H Q _ => ∃ (f : Addr) (L : Lay) (F : Fam), vs = [.ref f] ∧ FamAt H f L F ∧ ∀ p ps nss H', Ex H H' → LsAt H' p ps (rowsV nss) → NextsOk F nss → Q (.ref p) H'
theorem ok_law_nexts (T : Txt K mg) : Good P w K mg base CX0 5 "_law_nexts" ["_law_family_here"] spNexts := by
  have G_law_steps : Good P w K mg base CX0 4 "_law_steps" ["_law_family_here"] spSteps := ok_law_steps T
  refine Good.of T (j := 38) (i := 52) rfl rfl sc_law_nexts (fun _ _ _ _ _ _ us hl => match us, hl with | [_], _ => rfl) (fun vs H Q E h => ?_) (fun cdv A outer s H vs Q E hr h => ?_)
  · obtain ⟨f, L, F, rfl, _⟩ := h
    rfl
  · obtain ⟨f, L, F, rfl, hF, q⟩ := h
    refine ⟨_, (pss_cons (ps_setLc (i := 1) (own := [("_law_state", 3)]) rfl sc_law_nexts.nd rfl rfl (sw_true rfl rfl rfl (by decide +kernel)) (pi_range1 (by rfl) T.m_range (pa_cons (pe_ix ix_tup (pv 0) pe_int (fun _ _ => rfl)) pa_nil)) (blkOk_by (own := [("_law_state", 3)]) (N := ["_law_family_here", "_law_nexts_here", "_law_step", "_law_state"]) (sc := defScope (top 52)) (by decide +kernel)) (fun _ _ _ _ _ => (pg_name (i := 3) sc_law_nexts.nd rfl (.inl rfl))) (fun _ _ _ _ _ => pts_nil) (fun _ _ _ _ _ => (pe_lst pa_nil)))
(pss_cons (ps_for PassesOwn.never rfl (pi_list (pe_c G_law_steps hr (pa_cons (pv 0) pa_nil))) (pg_name (i := 2) sc_law_nexts.nd rfl (.inl rfl))
(pss_one (ps_if (pt_cmpR op_notIn_seq (pe_ix ix_tup (pv 2) pe_int (fun _ _ => rfl)) (pe_ix ix_list (pv 1) (pe_ix ix_tup (pv 2) pe_int (fun _ _ => rfl)) (fun _ _ => rfl)) (by rfl))
(pss_one (ps_expr (pe_bm PySem.F.plainAttrs_list PySem.F.slot_list_append PySem.F.type_list_append mt_append (pe_ix ix_list (pv 1) (pe_ix ix_tup (pv 2) pe_int (fun _ _ => rfl)) (fun _ _ => rfl)) (pa_cons (pe_ix ix_tup (pv 2) pe_int (fun _ _ => rfl)) pa_nil)))) pss_nil)))
(pss_one (ps_ret (pv 1))))), ?_⟩
    have ok := hF.ok
    have c4 := ok.c4
    refine s_lists (n := F.cnt) (xs := []) (ea_cons (ev_f0 (ev_var rfl) hF) ea_nil) (by omega) (fun a ha H1 e1 => el_lst ea_nil (by decide)) fun p H1 ps e1 np hps hls hpsn => ?_
    have hls0 : LsAt H1 p ps (rowsV (List.replicate F.cnt [])) := by
      rw [rows_rep]
      exact hls
    have hF1 := hF.ex e1
    dsimp only
    refine s_forLX (Pt := fun a xs H' => ∃ l : List (Addr × Stp), xs = (l.map fun q => V.ref q.1) ∧ StepsAt H' a l ∧ StepsOk F l) (ex_call (ea_cons (ev_var rfl) ea_nil) fun H2 e2 Q q E => ⟨f, L, F, rfl, hF1.ex e2, fun p H' l e' h1 h2 => q _ H' e' ⟨p, _, rfl, h1.h, l, rfl, h1, h2⟩⟩) fun sa xs H2 e2 hsa hst => ?_
    obtain ⟨l, rfl, hl, hok⟩ := hst
    refine ⟨fun i σ' H' => ∃ (nss : List (List Nat)) (y2 : Option V), σ' = [some (.ref f), some (.ref p), y2, none] ∧ Ex H H' ∧ StepsAt H' sa l ∧ LsAt H' p ps (rowsV nss) ∧ nss.length = F.cnt ∧ (∀ s r, nss[s]? = some r → r.Nodup ∧ ∀ t, t ∈ r ↔ ∃ n j a, (a, (s, n, j, t)) ∈ l.take i),
      ⟨_, none, rfl, e1.trans e2, hl, hls0.ex e2, List.length_replicate, fun s r hr => ?_⟩, fun i σ' H' _ hW => SqL.of (by obtain ⟨_, _, _, _, z, _⟩ := hW; exact z.h), fun i v σ' H3 hx hW => ?_, fun σ' H3 hW => ?_⟩
    · have : r = [] := by
        rw [List.getElem?_replicate] at hr
        split at hr
        · exact (Option.some.inj hr).symm
        · cases hr
      subst this
      exact ⟨List.nodup_nil, fun t => ⟨fun z => absurd z List.not_mem_nil, fun ⟨_, _, _, z⟩ => absurd (show _ ∈ ([] : List (Addr × Stp)) from z) List.not_mem_nil⟩⟩
    · obtain ⟨nss, y2, rfl, eH, hl3, hls3, hnl, hn⟩ := hW
      obtain ⟨q0, hq0, rfl⟩ := map_get hx
      obtain ⟨ad, s, n, j, t⟩ := q0
      have hmem := get_mem hq0
      have hlt := ((hok.mem s n j t).mp ⟨ad, hmem⟩).at.lt ok
      obtain ⟨r, hr⟩ : ∃ r, nss[s]? = some r := ⟨_, List.getElem?_eq_getElem (by omega)⟩
      obtain ⟨qa, h5, h6⟩ := hls3.at (get_map (c := fun r : List Nat => r.map nV) hr)
      have hq3 := hl3.each _ hmem
      obtain ⟨hnd, hiff⟩ := hn s r hr
      have htk : l.take (i + 1) = l.take i ++ [(ad, (s, n, j, t))] := by rw [List.take_add_one, hq0] <;> rfl
      have hstep : ∀ (nss' : List (List Nat)) (s' : Nat) (r' : List Nat), s' ≠ s → nss[s']? = some r' → r'.Nodup ∧ ∀ t', t' ∈ r' ↔ ∃ n j a, (a, (s', n, j, t')) ∈ l.take (i + 1) := fun nss' s' r' hne hr' => by
        obtain ⟨h1, h2⟩ := hn s' r' hr'
        refine ⟨h1, fun t' => ?_⟩
        rw [h2, htk]
        constructor
        · rintro ⟨n', j', a', z⟩
          exact ⟨n', j', a', List.mem_append_left _ z⟩
        · rintro ⟨n', j', a', z⟩
          rcases List.mem_append.mp z with z | z
          · exact ⟨n', j', a', z⟩
          · rw [List.mem_singleton] at z
            injection z with _ z2
            injection z2 with z3 _
            exact absurd z3 hne
      refine s_if (et_test (ev_niL (s := t) (ev_ixT (i := 3) (ev_var rfl) ev_c hq3 rfl) (ev_ls (i := s) (ev_var rfl) (ev_ixT (i := 0) (ev_var rfl) ev_c hq3 rfl) hls3 h5) h6)) (fun hb H4 e4 => ?_) (fun hb H4 e4 => ⟨nss, _, rfl, eH.trans e4, hl3.ex e4, hls3.ex e4, hnl, fun s' r' hr' => ?_⟩)
      · have htn : t ∉ r := by simpa using hb
        have hrl : r.length ≤ 4 := nodup_le hnd fun t' ht' => by
          obtain ⟨n', j', a', z⟩ := (hiff t').mp ht'
          have := ((hok.mem s n' j' t').mp ⟨a', List.mem_of_mem_take z⟩).at.lt ok
          omega
        have hls4 := hls3.ex e4
        refine s_appE (v := nV t) (e4 _ _ h6) (ev_ls (i := s) (ev_var rfl) (ev_ixT (i := 0) (ev_var rfl) ev_c (e4 _ _ hq3) rfl) hls4 h5) (ev_ixT (i := 3) (ev_var rfl) ev_c (e4 _ _ hq3) rfl) (by rw [List.length_map]; omega) fun H5 e5 => ?_
        have hset : (rowsV nss).set s (r.map nV ++ [nV t]) = rowsV (nss.set s (r ++ [t])) := by
          show _ = List.map _ _
          rw [List.map_set, List.map_append] <;> rfl
        have hsq : sa ≠ qa := fun z => by
          have h1 := hl3.h
          rw [z, h6] at h1
          have h2 := Option.some.inj h1
          injection h2 with h2
          cases hlr : l with
          | nil => rw [hlr] at hmem; exact absurd hmem List.not_mem_nil
          | cons a b =>
            rw [hlr] at h2
            cases hrr : r with
            | nil => rw [hrr] at h2; cases h2
            | cons c d => rw [hrr] at h2; injection h2 with h2 _; cases h2
        refine ⟨nss.set s (r ++ [t]), _, rfl, Ex.mut (eH.trans (e4.trans e5)) (hpsn qa (get_mem h5)), ⟨by rw [upd_ne hsq]; exact e5 _ _ (e4 _ _ hl3.h), fun q hq => ?_⟩, by rw [← hset]; exact (hls4.ex e5).upd h5, by rw [List.length_set]; exact hnl, fun s' r' hr' => ?_⟩
        · have h1 := e5 _ _ (e4 _ _ (hl3.each q hq))
          rw [upd_ne (fun z => by
            have h2 := e5 _ _ (e4 _ _ h6)
            rw [← z, h1] at h2
            cases h2)]
          exact h1
        · by_cases es : s' = s
          · subst es
            rw [List.getElem?_set_self (by omega)] at hr'
            have := Option.some.inj hr'
            subst this
            refine ⟨List.nodup_append.mpr ⟨hnd, List.nodup_cons.mpr ⟨List.not_mem_nil, List.nodup_nil⟩, fun a ha b hb z => by
              rw [List.mem_singleton] at hb
              rw [z, hb] at ha
              exact htn ha⟩, fun t' => ?_⟩
            rw [List.mem_append, hiff, htk, List.mem_singleton]
            constructor
            · rintro (⟨n', j', a', z⟩ | rfl)
              · exact ⟨n', j', a', List.mem_append_left _ z⟩
              · exact ⟨n, j, ad, List.mem_append_right _ (List.mem_singleton.mpr rfl)⟩
            · rintro ⟨n', j', a', z⟩
              rcases List.mem_append.mp z with z | z
              · exact .inl ⟨n', j', a', z⟩
              · rw [List.mem_singleton] at z
                injection z with _ z2
                injection z2 with _ z3
                injection z3 with _ z4
                injection z4 with _ z5
                exact .inr z5
          · rw [List.getElem?_set_ne (fun z => es z.symm)] at hr'
            exact hstep nss s' r' es hr'
      · have htm : t ∈ r := by simpa using hb
        by_cases es : s' = s
        · subst es
          rw [hr] at hr'
          have := Option.some.inj hr'
          subst this
          refine ⟨hnd, fun t' => ?_⟩
          rw [hiff, htk]
          constructor
          · rintro ⟨n', j', a', z⟩
            exact ⟨n', j', a', List.mem_append_left _ z⟩
          · rintro ⟨n', j', a', z⟩
            rcases List.mem_append.mp z with z | z
            · exact ⟨n', j', a', z⟩
            · rw [List.mem_singleton] at z
              injection z with _ z2
              injection z2 with _ z3
              injection z3 with _ z4
              injection z4 with _ z5
              rw [z5]
              exact (hiff t).mp htm
        · exact hstep nss s' r' es hr'
    · obtain ⟨nss, y2, rfl, eH, hl3, hls3, hnl, hn⟩ := hW
      rw [List.length_map] at hn
      refine s_ret (ev_var rfl) fun H4 e4 => q p ps nss H4 (eH.trans e4) (hls3.ex e4) ⟨hnl, fun r hr => ?_, fun s r hr t => ?_⟩
      · obtain ⟨s, hs⟩ := List.getElem?_of_mem hr
        exact (hn s r hs).1
      · rw [(hn s r hr).2, List.take_length]
        constructor
        · rintro ⟨n, j, a, z⟩
          exact ⟨n, j, (hok.mem s n j t).mp ⟨a, z⟩⟩
        · rintro ⟨n, j, z⟩
          obtain ⟨a, ha⟩ := (hok.mem s n j t).mpr z
          exact ⟨n, j, a, ha⟩
end
end S
end

section
set_option Elab.async false
set_option linter.all false
set_option autoImplicit false
set_option maxRecDepth 100000
set_option maxHeartbeats 4000000
namespace S
open PySem PySem.Spec PyProof.Rows L2 Evl
/-- t lies behind s -/
def Beh (F : Fam) (s t : Nat) : Prop := ∃ u, Edge F s u ∧ Lead F t u
theorem Beh.step {F : Fam} {s t u : Nat} (h : Beh F s t) (e : Edge F t u) : Beh F s u := by
  obtain ⟨v, h1, h2⟩ := h
  exact ⟨v, h1, h2.trans (.step e .refl)⟩
theorem Beh.lt {F : Fam} (ok : F.Ok) {s t : Nat} (h : Beh F s t) : t < F.cnt := by
  obtain ⟨u, h1, h2⟩ := h
  have hr := h1.reached.2
  clear h1
  induction h2 with
  | refl => exact hr.lt ok
  | step e _ ih => exact ih e.reached.2
theorem beh_closed {F : Fam} {s t : Nat} {fs : List Nat} (h0 : ∀ u, Edge F s u → u ∈ fs) (h1 : ∀ v ∈ fs, ∀ u, Edge F v u → u ∈ fs) (h : Beh F s t) : t ∈ fs := by
  obtain ⟨u, h2, h3⟩ := h
  have hu := h0 u h2
  clear h2
  induction h3 with
  | refl => exact hu
  | step e _ ih => exact ih (h1 _ hu _ e)
theorem nodup_full {n : Nat} {l : List Nat} (h : l.Nodup) (hb : ∀ a ∈ l, a < n) (hl : n ≤ l.length) {a : Nat} (ha : a < n) : a ∈ l := Classical.byContradiction fun hn => by
  have := nodup_le (n := n) (l := a :: l) (List.nodup_cons.mpr ⟨hn, h⟩) fun b hb' => by
    rcases List.mem_cons.mp hb' with rfl | hb'
    · exact ha
    · exact hb b hb'
  rw [List.length_cons] at this
  omega
section
variable {P : Program} {w : World} {K : PySem.W.Frag} {mg : Str → Option Value} {base : Heap}
theorem el_catE {σ : L2.St} {H : Hp} {ta tb : TE} {l b : Addr} {xs ys : List V} (ha : Ev ta σ H (.ref l)) (hb : Ev tb σ H (.ref b)) (hl : H l = some (.lst xs)) (hy : H b = some (.lst ys)) (hz : xs.length + ys.length ≤ 100000) : EvL (tOp rCat ta tb) σ H (xs ++ ys) := fun H1 e Q q =>
  ha H1 e _ fun H2 e2 => hb H2 (e.trans e2) _ fun H3 e3 => ⟨l, b, xs, ys, rfl, rfl, e3 _ _ (e2 _ _ (e _ _ hl)), e3 _ _ (e2 _ _ (e _ _ hy)), sz_of hz, fun u hu => q u _ (fresh_back (e2.trans e3) hu) ((e2.trans e3).trans (Ex.new hu)) upd_same⟩
theorem sc_law_returns : FnScope ["_law_nexts_here", "_law_state", "_law_found_here", "_law_edge", "_law_turn", "_law_ahead", "_law_goal"] ["_law_nexts_here", "_law_state"] (defScope (top 53)) := ⟨rfl, rfl, rfl, by decide +kernel, rfl, by decide +kernel, by decide +kernel⟩
-- slots: 0 _law_nexts_here, 1 _law_state, 2 _law_found_here, 3 _law_edge, 4 _law_turn, 5 _law_ahead, 6 _law_goal

def spReturns : Sp := fun vs H Q _ => ∃ (p : Addr) (ps : List Addr) (nss : List (List Nat)) (F : Fam) (s : Nat), vs = [.ref p, nV s] ∧ LsAt H p ps (rowsV nss) ∧ NextsOk F nss ∧ F.Ok ∧ s < F.cnt ∧ ∀ H' b, Ex H H' → (b = true ↔ Circ F s) → Q (.bl b) H'
theorem ok_law_returns (T : Txt K mg) : Good P w K mg base CX0 1 "_law_returns" ["_law_nexts_here", "_law_state"] spReturns := by
  refine Good.of T (j := 39) (i := 53) rfl rfl sc_law_returns (fun _ _ _ _ _ _ us hl => match us, hl with | [_, _], _ => rfl) (fun vs H Q E h => ?_) (fun cdv A outer s0 H vs Q E hr h => ?_)
  · obtain ⟨p, ps, nss, F, s, rfl, _⟩ := h
    rfl
  · obtain ⟨p, ps, nss, F, s, rfl, hls, hN, ok, hs, q⟩ := h
    refine ⟨_, (pss_cons (ps_set (i := 2) sc_law_returns.nd rfl (.inl rfl) (pe_lst pa_nil))
(pss_cons (ps_set (i := 3) sc_law_returns.nd rfl (.inl rfl) (pe_callTy call_list_of (by rfl) T.m_list (by decide +kernel) (pa_cons (pe_ix ix_list (pv 0) (pv 1) (fun _ _ => rfl)) pa_nil)))
(pss_cons (ps_for PassesOwn.never rfl (pi_range1 (by rfl) T.m_range (pa_cons (pe_callB call_len_seq (by rfl) T.m_len PySem.boot_len (pa_cons (pv 0) pa_nil)) pa_nil)) (pg_name (i := 4) sc_law_returns.nd rfl (.inl rfl))
(pss_cons (ps_set (i := 5) sc_law_returns.nd rfl (.inl rfl) (pe_lst pa_nil))
(pss_cons (ps_for PassesOwn.never rfl (pi_list (pv 3)) (pg_name (i := 6) sc_law_returns.nd rfl (.inl rfl))
(pss_one (ps_if (pt_cmpR op_notIn_seq (pv 6) (pv 2) (by rfl))
(pss_cons (ps_expr (pe_bm PySem.F.plainAttrs_list PySem.F.slot_list_append PySem.F.type_list_append mt_append (pv 2) (pa_cons (pv 6) pa_nil)))
(pss_one (ps_set (i := 5) sc_law_returns.nd rfl (.inl rfl) (pe_op op_cat (pv 5) (pe_ix ix_list (pv 0) (pv 6) (fun _ _ => rfl)))))) pss_nil)))
(pss_one (ps_set (i := 3) sc_law_returns.nd rfl (.inl rfl) (pv 5))))))
(pss_one (ps_ret (pe_cmpR op_in_seq (pv 1) (pv 2) (by rfl))))))), ?_⟩
    have c4 := ok.c4
    have hget : ∀ g, g < F.cnt → ∃ r, nss[g]? = some r ∧ r.length ≤ 4 ∧ r.Nodup ∧ ∀ t, t ∈ r ↔ Edge F g t := fun g hg => by
      have hg' : g < nss.length := by rw [hN.len]; exact hg
      refine ⟨nss[g], List.getElem?_eq_getElem hg', ?_, hN.nd _ (List.getElem_mem hg'), hN.iff g _ (List.getElem?_eq_getElem hg')⟩
      exact nodup_le (hN.nd _ (List.getElem_mem hg')) fun t ht => by
        have := ((hN.iff g _ (List.getElem?_eq_getElem hg') t).mp ht).reached.2.lt ok
        omega
    obtain ⟨r0, hr0, hr0l, _, hr0e⟩ := hget s hs
    refine s_asgL (el_lst ea_nil (by decide)) fun fa H1 nfa e1 hfa => ?_
    obtain ⟨q0, hq0, hq0l⟩ := (hls.ex e1).at (get_map (c := fun r : List Nat => r.map nV) hr0)
    refine s_asgL (el_listL (ev_ls (ev_var rfl) (ev_var rfl) (hls.ex e1) hq0) hq0l) fun ea H2 nea e2 hea => ?_
    have e12 := e1.trans e2
    refine s_forR1 (n := ((F.cnt : Nat) : Int)) (ea_cons (ev_is (ev_lenL (ev_var rfl) ((hls.ex e12).h)) (by rw [List.length_map, hls.len, List.length_map, hN.len] <;> rfl)) ea_nil) (by omega) (fun i σ' H' => ∃ (ea : Addr) (fs es : List Nat) (y4 y5 y6 : Option V), σ' = [some (.ref p), some (nV s), some (.ref fa), some (.ref ea), y4, y5, y6] ∧ Ex H H' ∧ H' fa = some (.lst (fs.map nV)) ∧ H' ea = some (.lst (es.map nV)) ∧ ea ≠ fa ∧ fs.Nodup ∧ (∀ t ∈ fs, Beh F s t) ∧ (∀ t ∈ es, Beh F s t) ∧
        es.length ≤ 100 ∧ (∀ u, Edge F s u → u ∈ fs ∨ u ∈ es) ∧ (∀ v ∈ fs, ∀ u, Edge F v u → u ∈ fs ∨ u ∈ es) ∧ (es = [] ∨ i ≤ fs.length))
      (fun H3 e3 => ⟨ea, [], r0, none, none, none, rfl, e12.trans e3, e3 _ _ (e2 _ _ hfa), e3 _ _ hea, (fun z => by rw [z, hfa] at nea; cases nea), List.nodup_nil, fun t ht => absurd ht List.not_mem_nil, fun t ht => ⟨t, (hr0e t).mp ht, .refl⟩, by omega, fun u hu => .inr ((hr0e u).mpr hu), fun v hv => absurd hv List.not_mem_nil, .inr (Nat.zero_le _)⟩) (fun i σ' H3 hi hW => ?_) (fun σ' H3 hW => ?_)
    · obtain ⟨ea, fs0, es, y4, y5, y6, rfl, eH, hfa3, hea3, hef, hnd0, hb0, hbe, hel, hc0, hc1, hprog⟩ := hW
      refine s_asgL (el_lst ea_nil (by decide)) fun aa H4 naa e4 haa => ?_
      have hfaH : H fa = none := nfa
      refine s_forL (ev_var rfl) (SqL.of (e4 _ _ hea3)) (fun j σ' H' => ∃ (aa : Addr) (fs ah : List Nat) (y6 : Option V), σ' = [some (.ref p), some (nV s), some (.ref fa), some (.ref ea), some (.int (i : Int)), some (.ref aa), y6] ∧ Ex H H' ∧ H' fa = some (.lst (fs.map nV)) ∧ H' ea = some (.lst (es.map nV)) ∧ H' aa = some (.lst (ah.map nV)) ∧ aa ≠ fa ∧ fs.Nodup ∧ (∀ t ∈ fs, Beh F s t) ∧ (∀ t ∈ ah, Beh F s t) ∧
          (∀ t ∈ fs0, t ∈ fs) ∧ (∀ t ∈ es.take j, t ∈ fs) ∧ (∀ v ∈ fs, v ∈ fs0 ∨ ∀ u, Edge F v u → u ∈ ah) ∧ (∀ v ∈ fs, v ∈ fs0 ∨ v ∈ es) ∧ ah.length ≤ 4 * fs.length ∧ ((fs = fs0 ∧ ah = []) ∨ fs0.length < fs.length))
        (fun H5 e5 => ⟨aa, fs0, [], _, rfl, eH.trans (e4.trans e5), e5 _ _ (e4 _ _ hfa3), e5 _ _ (e4 _ _ hea3), e5 _ _ haa, (fun z => by rw [z, hfa3] at naa; cases naa), hnd0, hb0, fun t ht => absurd ht List.not_mem_nil, fun t ht => ht, fun t ht => absurd (show t ∈ ([] : List Nat) from ht) List.not_mem_nil, fun v hv => .inl hv, fun v hv => .inl hv, Nat.zero_le _, .inl ⟨rfl, rfl⟩⟩) (fun j σ' H' _ hW => SqL.of (by obtain ⟨_, _, _, _, _, _, _, z, _⟩ := hW; exact z)) (fun j v σ' H5 hx hW => ?_) (fun σ' H5 hW => ?_)
      · obtain ⟨aa, fs, ah, y6, rfl, eH5, hfa5, hea5, haa5, haf, hnd, hb, hba, h0, htk, hsu, hor1, hahl, hor⟩ := hW
        obtain ⟨g, hg, rfl⟩ := map_get hx
        have hgb := hbe g (get_mem hg)
        have hgc := hgb.lt ok
        have htk1 : es.take (j + 1) = es.take j ++ [g] := by rw [List.take_add_one, hg] <;> rfl
        have hfl : fs.length ≤ 4 := Nat.le_trans (nodup_le hnd fun t ht => (hb t ht).lt ok) c4
        refine s_if (et_test (ev_niL (s := g) (ev_var rfl) (ev_var rfl) hfa5)) (fun hb2 H6 e6 => ?_) (fun hb2 H6 e6 => ⟨aa, fs, ah, _, rfl, eH5.trans e6, e6 _ _ hfa5, e6 _ _ hea5, e6 _ _ haa5, haf, hnd, hb, hba, h0, fun t ht => ?_, hsu, hor1, hahl, hor⟩)
        · have hgn : g ∉ fs := by simpa using hb2
          refine s_appE (v := nV g) (e6 _ _ hfa5) (ev_var rfl) (ev_var rfl) (by rw [List.length_map]; omega) fun H7 e7 => ?_
          have e57 := e6.trans e7
          have eH7 := Ex.mut (o := .lst (fs.map nV ++ [nV g])) (eH5.trans e57) hfaH
          have haa7 : (upd H7 fa (.lst (fs.map nV ++ [nV g]))) aa = some (.lst (ah.map nV)) := by rw [upd_ne haf]; exact e57 _ _ haa5
          have hea7 : (upd H7 fa (.lst (fs.map nV ++ [nV g]))) ea = some (.lst (es.map nV)) := by rw [upd_ne hef]; exact e57 _ _ hea5
          have hfa7 : (upd H7 fa (.lst (fs.map nV ++ [nV g]))) fa = some (.lst ((fs ++ [g]).map nV)) := by rw [upd_same, List.map_append] <;> rfl
          generalize upd H7 fa (.lst (fs.map nV ++ [nV g])) = H8 at *
          obtain ⟨rg, hrg, hrgl, hrgn, hrge⟩ := hget g hgc
          have hls8 := hls.ex eH7
          obtain ⟨qg, hqg, hqgl⟩ := hls8.at (get_map (c := fun r : List Nat => r.map nV) hrg)
          dsimp only
          refine s_asgL (el_catE (ev_var rfl) (ev_ls (i := g) (ev_var rfl) (ev_var rfl) hls8 hqg) haa7 hqgl (by rw [List.length_map, List.length_map]; omega)) fun aa2 H9 naa2 e9 haa2 => ?_
          refine ⟨aa2, fs ++ [g], ah ++ rg, _, rfl, eH7.trans e9, e9 _ _ hfa7, e9 _ _ hea7, by rw [haa2, List.map_append], (fun z => by rw [z, hfa7] at naa2; cases naa2), List.nodup_append.mpr ⟨hnd, List.nodup_cons.mpr ⟨List.not_mem_nil, List.nodup_nil⟩, fun a ha b hb z => by
            rw [List.mem_singleton] at hb
            rw [z, hb] at ha
            exact hgn ha⟩, fun t ht => ?_, fun t ht => ?_, fun t ht => List.mem_append_left _ (h0 t ht), fun t ht => ?_, fun v hv => ?_, fun v hv => ?_, by rw [List.length_append, List.length_append]; show _ ≤ 4 * (fs.length + 1); omega, .inr ?_⟩
          · rcases List.mem_append.mp ht with ht | ht
            · exact hb t ht
            · rw [List.mem_singleton.mp ht]
              exact hgb
          · rcases List.mem_append.mp ht with ht | ht
            · exact hba t ht
            · exact hgb.step ((hrge t).mp ht)
          · rw [htk1] at ht
            rcases List.mem_append.mp ht with ht | ht
            · exact List.mem_append_left _ (htk t ht)
            · exact List.mem_append_right _ ht
          · rcases List.mem_append.mp hv with hv | hv
            · rcases hsu v hv with h | h
              · exact .inl h
              · exact .inr fun u hu => List.mem_append_left _ (h u hu)
            · rw [List.mem_singleton.mp hv]
              exact .inr fun u hu => List.mem_append_right _ ((hrge u).mpr hu)
          · rcases List.mem_append.mp hv with hv | hv
            · exact hor1 v hv
            · rw [List.mem_singleton.mp hv]
              exact .inr (get_mem hg)
          · rw [List.length_append]
            show _ < fs.length + 1
            rcases hor with ⟨rfl, _⟩ | h <;> omega
        · have hgm : g ∈ fs := by simpa using hb2
          rw [htk1] at ht
          rcases List.mem_append.mp ht with ht | ht
          · exact htk t ht
          · rw [List.mem_singleton.mp ht]
            exact hgm
      · obtain ⟨aa, fs, ah, y6, rfl, eH5, hfa5, hea5, haa5, haf, hnd, hb, hba, h0, htk, hsu, hor1, hahl, hor⟩ := hW
        rw [List.length_map, List.take_length] at htk
        have hfl : fs.length ≤ 4 := Nat.le_trans (nodup_le hnd fun t ht => (hb t ht).lt ok) c4
        dsimp only
        refine s_asg (ev_var rfl) fun H6 e6 => ⟨aa, fs, ah, _, _, _, rfl, eH5.trans e6, e6 _ _ hfa5, e6 _ _ haa5, haf, hnd, hb, hba, by omega, fun u hu => ?_, fun v hv u hu => ?_, ?_⟩
        · rcases hc0 u hu with h | h
          · exact .inl (h0 u h)
          · exact .inl (htk u h)
        · rcases hsu v hv with h | h
          · rcases hc1 v h u hu with z | z
            · exact .inl (h0 u z)
            · exact .inl (htk u z)
          · exact .inr (h u hu)
        · rcases hor with ⟨rfl, rfl⟩ | h
          · exact .inl rfl
          · rcases hprog with rfl | h2
            · left
              -- no goals were on the edge: nothing is new
              have hsub : ∀ t ∈ fs, t ∈ fs0 := fun t ht => (hor1 t ht).resolve_right List.not_mem_nil
              have hle : fs.length ≤ fs0.length := by
                exact List.Nodup.length_le_of_subset hnd hsub
              omega
            · exact .inr (by omega)
    · obtain ⟨ea, fs, es, y4, y5, y6, rfl, eH, hfa3, hea3, hef, hnd, hb, hbe, hel, hc0, hc1, hprog⟩ := hW
      rw [Int.toNat_natCast] at hprog
      refine s_ret (ev_inL (s := s) (ev_var rfl) (ev_var rfl) hfa3) fun H4 e4 => q H4 _ (eH.trans e4) ?_
      rw [decide_eq_true_iff]
      constructor
      · intro h
        exact hb s h
      · intro h
        rcases hprog with rfl | h2
        · exact beh_closed (fun u hu => (hc0 u hu).resolve_right List.not_mem_nil) (fun v hv u hu => (hc1 v hv u hu).resolve_right List.not_mem_nil) h
        · exact nodup_full hnd (fun a ha => (hb a ha).lt ok) h2 hs
end
end S
end

section
set_option Elab.async false
set_option linter.all false
set_option autoImplicit false
set_option maxRecDepth 100000
set_option maxHeartbeats 4000000
namespace S
open PySem PySem.Spec PyProof.Rows L2 Evl
section
variable {P : Program} {w : World} {K : PySem.W.Frag} {mg : Str → Option Value} {base : Heap}
/-! ### _law_found -/
theorem sc_law_found : FnScope ["_law_family_here"] ["_law_family_here"] (defScope (top 57)) := ⟨rfl, rfl, rfl, by decide +kernel, rfl, by decide +kernel, by decide +kernel⟩
-- slots: 0 _law_family_here

def spFound : Sp := fun vs H Q _ => ∃ (f : Addr) (L : Lay) (F : Fam), vs = [.ref f] ∧ FamAt H f L F ∧ (∀ H', Ex H H' → (∀ r, r ∈ F.roots → FinS F r) → Q .non H') ∧ ((¬ ∀ r, r ∈ F.roots → FinS F r) → (∀ p H', Ex H H' → H' p = some (.tup [.str "refused"]) → Q (.ref p) H') ∧
  ∀ H' rp tp r s pre1 pre2 t post2 post1, Ex H H' → r ∈ F.roots → Ctx F r s pre1 post1 → RepAt F s pre1 pre2 t post2 post1 → H' tp = some (.tup ((pre1 ++ pre2 ++ t ++ (post2 ++ post1)).map nV)) → H' rp = some (.tup [.ref tp, nV pre1.length, nV (pre1.length + pre2.length)]) → Q (.ref rp) H')
theorem ok_law_found (T : Txt K mg) (hP : PrgOk P) : Good P w K mg base CX0 7 "_law_found" ["_law_family_here"] spFound := by
  have G_find_repetition : Good P w K mg base (L2.CX P w) 6 "find_repetition" ["family"] (spFindRep K) := ok_find_repetition T hP
  refine Good.of T (j := 43) (i := 57) rfl rfl sc_law_found (fun _ _ _ _ _ _ us hl => match us, hl with | [_], _ => rfl) (fun vs H Q E h => ?_) (fun cdv A outer s H vs Q E hr h => ?_)
  · obtain ⟨f, L, F, rfl, _⟩ := h
    rfl
  · obtain ⟨f, L, F, rfl, hF, q1, q23⟩ := h
    refine ⟨_, (pss_one (ps_try_only rfl rfl ⟨rfl, by decide, .inl (T.glo _ hTP)⟩ takes0 (fun W pn xe tk _ =>
(pss_one (ps_ret (pe_cS G_find_repetition hr tk (pa_cons (pv 0) pa_nil))))) (fun a oe cls d pn hz hf =>
(pss_one (ps_ret (pe_tup (pa_cons pe_str pa_nil))))))), ?_⟩
    refine ⟨.ref f, rfl, f, L, F, rfl, hF, fun H1 e1 hall => q1 H1 e1 hall, fun hnot => ⟨fun n H1 e1 hn d H2 hd he => ?_, fun H1 rp tp r s pre1 pre2 t post2 post1 e1 h1 h2 h3 h4 h5 h6 h7 h8 => (q23 hnot).2 H1 rp tp r s pre1 pre2 t post2 post1 e1 h1 h2 ⟨h3, h4, h5, h6⟩ h7 h8⟩⟩
    subst he
    refine ⟨true, T.etp, fun _ a ha => ?_, fun z => nomatch z⟩
    have e2 : Ex H1 (upd H1 d (.xd [(("count" : Str), .int n)])) := Ex.new hd
    refine ⟨by show 1 ≤ sizeLine; decide, fun p hp => ?_⟩
    exact (q23 hnot).1 p _ ((e1.trans e2).trans (Ex.new hp)) upd_same
/-! ### _law_repeated -/
theorem sc_law_repeated : FnScope ["_law_family_here", "_law_told", "_law_times", "e"] ["_law_family_here", "_law_told", "_law_times"] (defScope (top 58)) := ⟨rfl, rfl, rfl, by decide +kernel, rfl, by decide +kernel, by decide +kernel⟩
-- slots: 0 _law_family_here, 1 _law_told, 2 _law_times, 3 e

def spRepeated : Sp := fun vs H Q _ => ∃ (f : Addr) (L : Lay) (F : Fam) (rp tp : Addr) (s : Nat) (pre1 pre2 t post2 post1 : List Nat) (k : Nat), vs = [.ref f, .ref rp, nV k] ∧ FamAt H f L F ∧ H tp = some (.tup ((pre1 ++ pre2 ++ t ++ (post2 ++ post1)).map nV)) ∧ H rp = some (.tup [.ref tp, nV pre1.length, nV (pre1.length + pre2.length)]) ∧
  RepAt F s pre1 pre2 t post2 post1 ∧ k ≤ 20 ∧ (100 < repSize pre1 pre2 t post2 post1 k → ∀ H', Ex H H' → Q (.int (repSize pre1 pre2 t post2 post1 k)) H') ∧
  (repSize pre1 pre2 t post2 post1 k ≤ 100 → ∀ r H', Ex H H' → H' r = some (.tup ((pre1 ++ rep k pre2 ++ t ++ rep k post2 ++ post1).map nV)) → Q (.ref r) H')
theorem ok_law_repeated (T : Txt K mg) (hP : PrgOk P) : Good P w K mg base CX0 3 "_law_repeated" ["_law_family_here", "_law_told", "_law_times"] spRepeated := by
  have G_repeat_part : Good P w K mg base (L2.CX P w) 2 "repeat_part" ["family", "tree", "outer", "inner", "times"] (spRep K) := ok_repeat_part T hP
  refine Good.of T (j := 44) (i := 58) rfl rfl sc_law_repeated (fun _ _ _ _ _ _ us hl => match us, hl with | [_, _, _], _ => rfl) (fun vs H Q E h => ?_) (fun cdv A outer s0 H vs Q E hr h => ?_)
  · obtain ⟨f, L, F, rp, tp, s, pre1, pre2, t, post2, post1, k, rfl, _⟩ := h
    rfl
  · obtain ⟨f, L, F, rp, tp, s, pre1, pre2, t, post2, post1, k, rfl, hF, htp, hrp, hrep, hk, q1, q2⟩ := h
    refine ⟨_, (pss_one (ps_try_as (i := 3) rfl rfl sc_law_repeated.nd rfl rfl ⟨rfl, by decide, .inl (T.glo _ hTP)⟩ takes0 (fun W pn xe tk _ =>
(pss_one (ps_ret (pe_cS G_repeat_part hr tk (pa_cons (pv 0) (pa_cons (pe_ix (k_ixT (K := K) rfl) (pv 1) pe_int (fun _ _ => rfl)) (pa_cons (pe_ix (k_ixT (K := K) rfl) (pv 1) pe_int (fun _ _ => rfl)) (pa_cons (pe_ix (k_ixT (K := K) rfl) (pv 1) pe_int (fun _ _ => rfl)) (pa_cons (pv 2) pa_nil))))))))) (fun a oe cls d pn hz hf =>
(pss_one (ps_ret (pe_xf T.xf T.pt.noN hz hf (pv 3))))))), ?_⟩
    have i0 : atI [V.ref tp, nV pre1.length, nV (pre1.length + pre2.length)] ((0 : Nat) : Int) = some (.ref tp) := atI_nat rfl
    have i1 : atI [V.ref tp, nV pre1.length, nV (pre1.length + pre2.length)] ((1 : Nat) : Int) = some (nV pre1.length) := atI_nat rfl
    have i2 : atI [V.ref tp, nV pre1.length, nV (pre1.length + pre2.length)] ((2 : Nat) : Int) = some (nV (pre1.length + pre2.length)) := atI_nat rfl
    refine ⟨.ref f, rfl, .ref rp, rfl, rp, _, _, _, rfl, rfl, SqT.of hrp, i0, .ref rp, rfl, rp, _, _, _, rfl, rfl, SqT.of hrp, i1, .ref rp, rfl, rp, _, _, _, rfl, rfl, SqT.of hrp, i2, nV k, rfl, ?_⟩
    refine ⟨f, L, F, tp, s, pre1, pre2, t, post2, post1, k, rfl, hF, htp, hrep, hk, fun hn H2 e2 d H3 hd he => ?_, fun hn r H2 e2 hr2 => q2 hn r H2 e2 hr2⟩
    subst he
    refine ⟨true, T.etp, fun _ a ha => ?_, fun z => nomatch z⟩
    have e3 : Ex H2 (upd H2 d (.xd [(("count" : Str), .int (repSize pre1 pre2 t post2 post1 k))])) := Ex.new hd
    refine ⟨.ref a, rfl, rfl, rfl, d, _, _, rfl, upd_same, rfl, ?_⟩
    exact q1 hn _ (e2.trans e3)
end
end S
end

section
set_option Elab.async false
set_option linter.all false
set_option autoImplicit false
set_option maxRecDepth 100000
set_option maxHeartbeats 4000000
namespace S
open PySem PySem.Spec PyProof.Rows L2 Evl
theorem FamAt.et {H H' : Hp} {t l f : Addr} {L : Lay} {F : Fam} (h : FamAt H f L F) (hT : TapeAt H t l) (e : Et t H H') : FamAt H' f L F :=
  ⟨e.at (hT.ntup h.h0) h.h0, e.at (hT.ntup h.h1) h.h1, e.at (hT.ntup h.h2) h.h2, fun i x hx => (h.h3 i x hx).et hT e, h.ok⟩
theorem Et.ex {H0 H H' : Hp} {t : Addr} (e0 : Ex H0 H) (ht : H0 t = none) (e : Et t H H') : Ex H0 H' := fun a o h => e.at (fun z => by rw [z, ht] at h; cases h) (e0 a o h)
section
variable {K : PySem.W.Frag} {σ : L2.St} {H H' : Hp} {ta tb tc td te : TE} {t u : TT} {D : Ends} {tu tw : TS}
theorem ev_endless {f : Addr} {L : Lay} {F : Fam} {due : Bool} (ha : Ev ta σ H (.ref f)) (hF : FamAt H f L F) (hd : due = true ↔ ∃ r, r ∈ F.roots ∧ ¬ FinS F r) : Ev (tCall spEndless [] E0 (tCons ta tNil)) σ H (.bl due) := fun H1 e Q q =>
  (ea_cons ha ea_nil) H1 e _ fun H2 e2 => ⟨f, L, F, rfl, hF.ex (e.trans e2), fun H3 b e3 hb => by
    have : b = due := by rw [Bool.eq_iff_iff, hb, hd]
    rw [this]
    exact q H3 (e2.trans e3)⟩
theorem ev_ints {ns : List Int} (hb : ET tb σ H (ns.map V.int)) (hc : Ev tc σ H (.int ns.length)) : Ev (tCall spInts [] E0 (tCons tb (tCons tc tNil))) σ H (.bl true) := fun H1 e Q q =>
  hb H1 e _ fun p H2 e2 hp => hc H2 (e.trans e2) _ fun H3 e3 => ⟨p, ns, rfl, e3 _ _ hp, fun H4 e4 => q H4 ((e2.trans e3).trans e4)⟩
theorem ev_intT {n : Int} (h : Ev ta σ H (.int n)) : Ev (tCall spInt [] E0 (tCons ta tNil)) σ H (.bl true) := fun H1 e Q q => (ea_cons h ea_nil) H1 e _ fun H2 e2 => ⟨n, rfl, fun H3 e3 => q H3 (e2.trans e3)⟩
theorem ev_prodT {f p : Addr} {L : Lay} {F : Fam} {ns : List Nat} (ha : Ev ta σ H (.ref f)) (hb : Ev tb σ H (.ref p)) (hF : FamAt H f L F) (hp : H p = some (.tup (ns.map nV))) (hz : ns.length ≤ 1000) (hr : ∃ r ∈ F.roots, Fo F [r] ns) :
    Ev (tCall spIsProd [] E0 (tCons ta (tCons tb tNil))) σ H (.bl true) := fun H1 e Q q => (ea_cons ha (ea_cons hb ea_nil)) H1 e _ fun H2 e2 => ⟨f, L, F, p, ns, rfl, hF.ex (e.trans e2), (e.trans e2) _ _ hp, hz, hr, fun H3 e3 => q H3 (e2.trans e3)⟩
theorem ev_priced {f : Addr} {L : Lay} {F : Fam} {ns : List Nat} (ha : Ev ta σ H (.ref f)) (hb : ET tb σ H (ns.map nV)) (hF : FamAt H f L F) (hz : ns.length ≤ 1000) (hv : ∀ n ∈ ns, ∃ x, F.vs[n]? = some x ∧ x.price.isSome = true) :
    Ev (tCall spPrice [] E0 (tCons ta (tCons tb tNil))) σ H (.int (prS F ns)) := fun H1 e Q q => ha H1 e _ fun H2 e2 => hb H2 (e.trans e2) _ fun p H3 e3 hp => ⟨f, L, F, p, ns, rfl, hF.ex ((e.trans e2).trans e3), ⟨hp, hz, hv⟩, fun H4 e4 => q H4 ((e2.trans e3).trans e4)⟩
theorem ev_chain3 {a b c d : Int} (ha : Ev ta σ H (.int a)) (hb : Ev tb σ H (.int b)) (hc : Ev tc σ H (.int c)) (hd : Ev td σ H (.int d)) (h1 : a ≤ b) (h2 : b < c) (h3 : c < d) :
    Ev (tChain3 (rI0 fun i j => .bl (decide (i ≤ j))) (rI0 fun i j => .bl (decide (i < j))) (rI0 fun i j => .bl (decide (i < j))) ta tb tc td) σ H (.bl true) := fun H1 e Q q =>
  ha H1 e _ fun H2 e2 => hb H2 (e.trans e2) _ fun H3 e3 => ⟨a, b, rfl, rfl, decide (a ≤ b), rfl, by
    rw [decide_eq_true h1, if_pos rfl]
    exact hc H3 ((e.trans e2).trans e3) _ fun H4 e4 => ⟨b, c, rfl, rfl, decide (b < c), rfl, by
      rw [decide_eq_true h2, if_pos rfl]
      exact hd H4 (((e.trans e2).trans e3).trans e4) _ fun H5 e5 => ⟨c, d, rfl, rfl, by
        show Q (V.bl (decide (c < d))) H5
        rw [decide_eq_true h3]
        exact q H5 (((e2.trans e3).trans e4).trans e5)⟩⟩⟩
theorem ev_eqTup {p r : Addr} {ls ms : List Nat} (ha : Ev ta σ H (.ref p)) (hb : Ev tb σ H (.ref r)) (hp : H p = some (.tup (ls.map nV))) (hr : H r = some (.tup (ms.map nV))) : Ev (tOp (rEqD K) ta tb) σ H (.bl (decide (ls = ms))) :=
  ev_op ha hb (rv_val fun H1 e Q q => ⟨.tuple (dI (ls.map fun n : Nat => (n : Int))), .tuple (dI (ms.map fun n : Nat => (n : Int))), by
    have z := e _ _ hp
    rw [nV_ints] at z
    exact .tup (SqT.of z) (dp_ints _), by
    have z := e _ _ hr
    rw [nV_ints] at z
    exact .tup (SqT.of z) (dp_ints _), shp_tup _, shp_tup _, by
    rw [PyData.eqv, eqv_ints]
    have : decide ((ls.map fun n : Nat => (n : Int)) = (ms.map fun n : Nat => (n : Int))) = decide (ls = ms) := by
      rw [Bool.eq_iff_iff, decide_eq_true_iff, decide_eq_true_iff, cast_inj]
    rw [this]
    exact q⟩)
def dRef : PyData := .tuple [.str "refused"]
theorem shp_ref : SeqAt.shaped dRef = true := by
  unfold SeqAt.shaped dRef
  rw [PyData.canLay0, PyData.canLayAll0, PyData.canLay0, PyData.canLayAll0, PyData.depth, PyData.depthAll, PyData.depth, PyData.depthAll]
  decide +kernel
/-- told == ('refused',) -/
theorem ev_refT {p : Addr} (ha : Ev ta σ H (.ref p)) (hp : H p = some (.tup [.str "refused"])) : Ev (tOp (rEqD K) ta (tTup (tCons (tC (.str "refused")) tNil))) σ H (.bl true) := fun H1 e Q q =>
  ha H1 e _ fun H2 e2 => (eu_tup (ea_cons ev_c ea_nil) (by show 1 ≤ 100000; decide)) H2 (e.trans e2) _ fun r H3 nr e3 hr => ⟨dRef, dRef, .tup (SqT.of (e3 _ _ (e2 _ _ (e _ _ hp)))) (.cons (.str _) .nil), .tup (SqT.of hr) (.cons (.str _) .nil), shp_ref, shp_ref, by
    have : PyData.eqv dRef dRef = true := by
      show PyData.eqv (.tuple _) (.tuple _) = true
      rw [PyData.eqv, PyData.eqvAll, PyData.eqvAll, PyData.eqv]
      decide +kernel
    rw [this]
    exact q H3 (e2.trans e3)⟩
theorem ev_refF {p tp : Addr} {ls : List Nat} {i j : Nat} (ha : Ev ta σ H (.ref p)) (hp : H p = some (.tup [.ref tp, nV i, nV j])) (ht : H tp = some (.tup (ls.map nV))) : Ev (tOp (rEqD K) ta (tTup (tCons (tC (.str "refused")) tNil))) σ H (.bl false) := fun H1 e Q q =>
  ha H1 e _ fun H2 e2 => (eu_tup (ea_cons ev_c ea_nil) (by show 1 ≤ 100000; decide)) H2 (e.trans e2) _ fun r H3 nr e3 hr => ⟨.tuple [.tuple (dI (ls.map fun n : Nat => (n : Int))), .int (i : Int), .int (j : Int)], dRef, .tup (SqT.of (e3 _ _ (e2 _ _ (e _ _ hp)))) (.cons (by
    have z := e3 _ _ (e2 _ _ (e _ _ ht))
    rw [nV_ints] at z
    exact .tup (SqT.of z) (dp_ints _)) (.cons (.int _) (.cons (.int _) .nil))), .tup (SqT.of hr) (.cons (.str _) .nil), by
    unfold SeqAt.shaped
    rw [PyData.canLay0, PyData.canLayAll0, PyData.canLay0, lay_ints, PyData.canLayAll0, PyData.canLay0, PyData.canLayAll0, PyData.canLay0, PyData.canLayAll0, PyData.depth, PyData.depthAll, PyData.depth, dep_ints, PyData.depthAll, PyData.depth, PyData.depthAll, PyData.depth, PyData.depthAll] <;> rfl, shp_ref, by
    have : PyData.eqv (.tuple [.tuple (dI (ls.map fun n : Nat => (n : Int))), .int (i : Int), .int (j : Int)]) dRef = false := by
      show PyData.eqv (.tuple _) (.tuple _) = false
      rw [PyData.eqv, PyData.eqvAll, PyData.eqv, Bool.false_and]
    rw [this]
    exact q H3 (e2.trans e3)⟩
theorem inV_bl (l : List Bool) : inV (.bl true) (l.map V.bl) = l.any id := by
  unfold inV
  rw [List.any_map]
  congr 1
  funext b
  show (b == true) = id b
  cases b <;> rfl
theorem flat_bl (l : List Bool) : (l.map V.bl).all flatV = true := by
  rw [List.all_eq_true]
  intro x hx
  obtain ⟨b, _, rfl⟩ := List.mem_map.mp hx
  rfl
end
end S
end

section
set_option Elab.async false
set_option linter.all false
set_option autoImplicit false
set_option maxRecDepth 100000
set_option maxHeartbeats 4000000
namespace S
open PySem PySem.Spec PyProof.Rows L2 Evl
/-! ### the repeated tree, in plain words -/
def othT (pre1 pre2 t post2 post1 : List Nat) (k : Nat) : List Nat := pre1 ++ rep k pre2 ++ t ++ rep k post2 ++ post1
theorem oth_len (pre1 pre2 t post2 post1 : List Nat) (k : Nat) : ((othT pre1 pre2 t post2 post1 k).length : Int) = repSize pre1 pre2 t post2 post1 k := by
  unfold othT repSize
  rw [List.length_append, List.length_append, List.length_append, List.length_append, rep_len, rep_len, List.length_append, List.length_append, List.length_append, List.length_append]
  rw [Int.sub_mul, Int.mul_add, Int.one_mul, Int.natCast_add, Int.natCast_add, Int.natCast_add, Int.natCast_add, Int.natCast_mul, Int.natCast_mul, Int.natCast_add, Int.natCast_add, Int.natCast_add, Int.natCast_add]
  omega
theorem oth_fo {F : Fam} {r s : Nat} {pre1 pre2 t post2 post1 : List Nat} (hc : Ctx F r s pre1 post1) (h : RepAt F s pre1 pre2 t post2 post1) (k : Nat) : Fo F [r] (othT pre1 pre2 t post2 post1 k) := by
  have := hc _ ((h.c2.pow k) _ h.fo)
  unfold othT
  rw [show pre1 ++ rep k pre2 ++ t ++ rep k post2 ++ post1 = pre1 ++ (rep k pre2 ++ t ++ rep k post2) ++ post1 by simp [List.append_assoc]]
  exact this
theorem oth_pr (F : Fam) (pre1 pre2 t post2 post1 : List Nat) (k : Nat) : prS F (othT pre1 pre2 t post2 post1 k) = prS F (pre1 ++ pre2 ++ t ++ (post2 ++ post1)) + ((k : Int) - 1) * (prS F pre2 + prS F post2) := by
  unfold othT
  rw [prS_app, prS_app, prS_app, prS_app, prS_rep, prS_rep, prS_app, prS_app, prS_app, prS_app, Int.sub_mul, Int.mul_add, Int.one_mul]
  omega
theorem oth_inj {pre1 pre2 t post2 post1 : List Nat} (hne : pre2 ≠ []) (j k : Nat) : (othT pre1 pre2 t post2 post1 j = othT pre1 pre2 t post2 post1 k) ↔ j = k := by
  constructor
  · intro e
    have e2 := congrArg List.length e
    unfold othT at e2
    rw [List.length_append, List.length_append, List.length_append, List.length_append, rep_len, rep_len, List.length_append, List.length_append, List.length_append, List.length_append, rep_len, rep_len] at e2
    have hp : 0 < pre2.length := List.length_pos_iff.mpr hne
    rcases Nat.lt_trichotomy j k with h | h | h
    · have a1 := Nat.mul_lt_mul_of_pos_right h hp
      have a2 := Nat.mul_le_mul_right post2.length (Nat.le_of_lt h)
      omega
    · exact h
    · have a1 := Nat.mul_lt_mul_of_pos_right h hp
      have a2 := Nat.mul_le_mul_right post2.length (Nat.le_of_lt h)
      omega
  · rintro rfl
    rfl
theorem nV_inj {j k : Nat} : nV j = nV k ↔ j = k := by
  constructor
  · intro h
    injection h with h
    exact Int.ofNat.inj h
  · rintro rfl
    rfl
theorem upd_keep {H : Hp} {fa a : Addr} {o : HO} {xs ys : List V} (hf : H fa = some (.lst xs)) (h : H a = some (.tup ys)) : (upd H fa o) a = some (.tup ys) := by
  rw [upd_ne]
  · exact h
  · rintro rfl
    rw [hf] at h
    cases h
section
variable {K : PySem.W.Frag} {σ : L2.St} {H H' : Hp} {ta tb tc td te tf ti : TE} {t u : TT} {D : Ends} {tu tw : TS} {x : V}
theorem s_ifT (h : EvT t σ H true) (h1 : ∀ H1, Ex H H1 → tu D σ H1) : tIfS t tu tw D σ H := s_if h (fun _ => h1) (fun z => nomatch z)
theorem s_ifN (h : EvT t σ H false) (k : ∀ H1, Ex H H1 → D.nx σ H1) : tIfS t tu tNext D σ H := s_when h (fun z => nomatch z) (fun _ => k)
theorem et_orT (h : EvT t σ H true) : EvT (tOr t u) σ H true := et_or (b := true) h (fun z => nomatch z)
theorem et_orF {b : Bool} (h : EvT t σ H false) (h2 : EvT u σ H b) : EvT (tOr t u) σ H b := et_is (et_or h fun _ => h2) (Bool.false_or _)
theorem et_notF (h : EvT t σ H true) : EvT (tNot t) σ H false := et_not h
theorem et_neF (ha : Ev ta σ H x) (hb : Ev tb σ H x) (hs : scal x x = true) : EvT (tTest (tOp rNe ta tb)) σ H false := et_is (et_test (ev_op ha hb (rv_ne hs))) (by rw [decide_eq_true rfl] <;> rfl)
theorem et_notTr (ha : Ev ta σ H (.bl true)) : EvT (tTest (tOp rNotB ta (tC (.bl true)))) σ H false := et_test (ev_op ha ev_c (rv_val fun H1 _ Q q => ⟨true, true, rfl, rfl, q⟩))
theorem ev_intsN {ls : List Nat} (hb : ET tb σ H (ls.map nV)) (hc : Ev tc σ H (nV ls.length)) : Ev (tCall spInts [] E0 (tCons tb (tCons tc tNil))) σ H (.bl true) := ev_ints (ns := ls.map fun n : Nat => (n : Int)) (by rw [← nV_ints]; exact hb) (by rw [List.length_map]; exact hc)
theorem ev_lenN {xs : List V} {ls : List Nat} (h : ET te σ H xs) (e : xs = ls.map nV) : Ev (tCB (fun xs H Q => ∃ p ys, xs = [.ref p] ∧ (SqL K H p ys ∨ SqT K H p ys) ∧ Q (.int ys.length) H) (tCons te tNil)) σ H (nV ls.length) := ev_is (ev_lenT h) (by rw [e, List.length_map])
theorem ev_plug {f : Addr} {L : Lay} {F : Fam} {n : Nat} {x : Var} (hf : Ev tf σ H (.ref f)) (hF : FamAt H f L F) (hi : Ev ti σ H (nV n)) (hx : F.vs[n]? = some x) : Ev (tOp (rIxT K) (tOp (rIxT K) (tOp (rIxT K) tf (tC (.int 2))) ti) (tC (.int 0))) σ H (nV x.plug) :=
  ev_v0 (ev_ixT (ev_f2 hf hF) hi hF.h2 (FamAt.at F L (get_lt hx))) (hF.h3 n x hx)
theorem td_cnt {f : Addr} {L : Lay} {F : Fam} {r M : Nat} {Q : VK} {ns : List Nat} (ha : Ev ta σ H (.ref f)) (hb : Ev tb σ H (nV r)) (hc : Ev tc σ H (nV M)) (hF : FamAt H f L F) (hr : r < F.cnt) (h20 : M ≤ 20) (h1 : 1 ≤ M) (hfo : Fo F [r] ns) (hl : ns.length = M)
    (k : ∀ rr (row : List Nat) v H3, Ex H H3 → H3 rr = some (.tup (row.map nV)) → row[M - 1]? = some v → 1 ≤ v → Q (.ref rr) H3) : tCall spCounts [] E0 (tCons ta (tCons tb (tCons tc tNil))) σ H Q :=
  (ea_cons ha (ea_cons hb (ea_cons hc ea_nil))) H (Ex.refl H) _ fun H2 e2 => ⟨f, L, F, r, M, rfl, hF.ex e2, h20, h1, hr, fun rr row v H3 e3 hrr hrow hge => k rr row v H3 (e2.trans e3) hrr hrow (hge _ hfo hl)⟩
theorem et_cnt {f : Addr} {L : Lay} {F : Fam} {r M : Nat} {ns : List Nat} (ha : Ev ta σ H (.ref f)) (hb : Ev tb σ H (nV r)) (hc : ∀ H1, Ev tc σ H1 (nV M)) (hF : FamAt H f L F) (hr : r < F.cnt) (h20 : M ≤ 20) (h1 : 1 ≤ M) (hfo : Fo F [r] ns) (hl : ns.length = M) :
    EvT (tTest (tOp (rI0 fun i j => .bl (decide (i < j))) (tOp (rIxT K) (tCall spCounts [] E0 (tCons ta (tCons tb (tCons tc tNil)))) (tOp (rI0 fun i j => .int (i - j)) tc (tC (.int 1)))) (tC (.int 1)))) σ H false := fun H1 e Q q =>
  td_cnt (Ev.mono e ha) (Ev.mono e hb) (hc H1) (hF.ex e) hr h20 h1 hfo hl fun rr row v H3 e3 hrr hrow hv => (ev_is (w := nV (M - 1)) (ev_op (hc H3) ev_c rv_I0) (by
    show V.int _ = V.int _
    congr 1
    omega)) H3 (Ex.refl H3) _ fun H4 e4 => ⟨rr, row.map nV, _, nV v, rfl, rfl, SqT.of (e4 _ _ hrr), atI_nat (get_map hrow), _, _, rfl, rfl, _, rfl, by
      have : decide ((v : Int) < 1) = false := decide_eq_false (by omega)
      show Q (decide ((v : Int) < 1)) H4
      rw [this]
      exact q H4 (e3.trans e4)⟩
end
end S
end

section
set_option Elab.async false
set_option linter.all false
set_option autoImplicit false
set_option maxRecDepth 100000
set_option maxHeartbeats 8000000
namespace S
open PySem PySem.Spec PyProof.Rows L2 Evl
section
variable {P : Program} {w : World} {K : PySem.W.Frag} {mg : Str → Option Value} {base : Heap}
/-! ### law -/
def spLaw (K : PySem.W.Frag) : Sp := fun vs H Q _ => ∃ (a : Addr) (ns : List Int), vs = [.ref a] ∧ SqL K H a (ns.map V.int) ∧ ns.length ≤ 63 ∧ ∀ H', Q (.bl true) H'
theorem sc_law : FnScope ["_law_script", "_law_tape_here", "_law_family_here", "_law_pair", "_law_nexts_here", "_law_due", "_law_told", "_law_tree", "_law_more", "_law_gain", "_law_found_here", "_law_times", "_law_other", "_law_size_here", "_law_price_here", "_law_state"] ["_law_script"] (defScope (top 59)) := ⟨rfl, rfl, rfl, by decide +kernel, rfl, by decide +kernel, by decide +kernel⟩
-- slots: 0 _law_script, 1 _law_tape_here, 2 _law_family_here, 3 _law_pair, 4 _law_nexts_here, 5 _law_due, 6 _law_told, 7 _law_tree, 8 _law_more, 9 _law_gain, 10 _law_found_here, 11 _law_times, 12 _law_other, 13 _law_size_here, 14 _law_price_here, 15 _law_state

theorem ex_callH {sp : Sp} {vs : List V} {ta : TA} {σ : L2.St} {H : Hp} {P : V → Hp → Prop} (h : EvA ta σ H vs) (hs : ∀ H1, Ex H H1 → ∀ Q : VK, (∀ v H2, Ex H1 H2 → P v H2 → Q v H2) → ∀ E : XK, sp vs H1 Q E) : EX (tCall sp [] E0 ta) σ H P := ex_call h hs
theorem tq_fam {σ : L2.St} {H : Hp} {ta : TE} {t l : Addr} {Q : VK} (hT : TapeAt H t l) (ha : ∀ H1, Ev ta σ H1 (.ref t)) (k : ∀ f L F H', Et t H H' → TapeAt H' t l → FamAt H' f L F → Q (.ref f) H') :
    tCall spFam [] E0 (tCons ta (tCons (tC (.int 4)) (tCons (tC (.int 8)) (tCons (tC (.int 0)) tNil)))) σ H Q := (ea_cons (ha H) (ea_cons ev_c (ea_cons ev_c (ea_cons ev_c ea_nil)))) H (Ex.refl H) _ fun H1 e1 => ⟨t, l, rfl, hT.exx e1, fun f L F H' e' h1 h2 => k f L F H' ((Ex.et e1).trans e') h1 h2⟩
theorem s_famX {σ : L2.St} {H : Hp} {ta : TE} {D : Ends} {t l : Addr} {i : Nat} (hT : TapeAt H t l) (ha : ∀ H1, Ev ta σ H1 (.ref t)) (k : ∀ f L F H', Et t H H' → TapeAt H' t l → FamAt H' f L F → D.nx (σ.set i (some (.ref f))) H') :
    tAsg (tCall spFam [] E0 (tCons ta (tCons (tC (.int 4)) (tCons (tC (.int 8)) (tCons (tC (.int 0)) tNil))))) (gName i) D σ H := tq_fam hT ha k
theorem s_pair {σ : L2.St} {H : Hp} {ta tb : TE} {D : Ends} {t l : Addr} {i m m2 : Nat} (hT : TapeAt H t l) (ha : ∀ H1, Ev ta σ H1 (.ref t)) (hb : ∀ H1, Ev tb σ H1 (.ref t)) (h1 : 1 ≤ m) (h2 : m ≤ 1000000001) (h3 : 1 ≤ m2) (h4 : m2 ≤ 1000000001)
    (k : ∀ (r r2 : Nat) p H', Et t H H' → r < m → r2 < m2 → H' p = some (.lst [nV r, nV r2]) → D.nx (σ.set i (some (.ref p))) H') :
    tAsg (tLst (tCons (tCall spDraw [] E0 (tCons ta (tCons (tC (.int (m : Int))) tNil))) (tCons (tCall spDraw [] E0 (tCons tb (tCons (tC (.int (m2 : Int))) tNil))) tNil))) (gName i) D σ H :=
  td_draw (ha H) ev_c hT h1 h2 fun r H1 e1 hT1 hr => td_draw (hb H1) ev_c hT1 h3 h4 fun r2 H2 e2 hT2 hr2 => ⟨(by show 2 ≤ sizeLine; decide), fun p hp => k r r2 p _ (e1.trans (e2.trans (Ex.et (Ex.new hp)))) hr hr2 upd_same⟩
def LawInv (fa : Addr) (H9 : Hp) (oth : Nat → List Nat) (c : Nat → Bool) (ks : List Nat) (pr : Option V → Option V → Option V → Option V → Option V → L2.St) (i : Nat) (σ' : L2.St) (H' : Hp) : Prop :=
  ∃ (fs : List (Addr × Nat)) (y1 y2 y3 y4 y5 : Option V), σ' = pr y1 y2 y3 y4 y5 ∧ Ex H9 H' ∧ H' fa = some (.lst (fs.map fun q => V.ref q.1)) ∧ fs.map (fun q => q.2) = (ks.take i).filter c ∧ ∀ q ∈ fs, H' q.1 = some (.tup ((oth q.2).map nV))
theorem fd_of {i k : Nat} {x : Str} {N ps : List Str} {sp : Sp} (S : FnScope N ps (defScope (top i))) (len : ∀ vs H Q E, sp vs H Q E → vs.length = ps.length)
    (hbody : ∀ (cdv : Value) (A : Around) (outer : List Env) (s : Shared) (H : Hp) (vs : List V) (Q : VK) (E : XK), Room k (A.deeper (envOfC x (defScope (top i)) s.heap.objs.size (He.ga K x) cdv)) → sp vs H Q E →
      ∃ t, PSs (cxOf CX0 P w K mg base N x (defScope (top i)) (He.ga K x) cdv A outer s H E).nox (defBody (top i)) t ∧ t { nx := fun _ H' => Q .non H', rt := Q } (start N vs) H) (fd : FuncData)
    (F : FunD K x x (defArgs (top i)) (defBody (top i)) (defScope (top i)) [] [] (He.ga K x) fd) : FnOk P w K mg base CX0 (k + 1) (He.ga K x) fd ps sp := F.ok S len fun cdv A outer s H vs Q E hr h => by
  obtain ⟨t, h1, h2⟩ := hbody cdv A outer s H vs Q E hr h
  exact ⟨t, PSs.nox h1, h2⟩
theorem ok_law (T : Txt K mg) (hP : PrgOk P) (fd : FuncData) (F : FunD K "law" "law" (defArgs (top 59)) (defBody (top 59)) (defScope (top 59)) [] [] (He.ga K "law") fd) : FnOk P w K mg base CX0 9 (He.ga K "law") fd ["_law_script"] (spLaw K) := by
  have G_law_tape : Good P w K mg base CX0 8 "_law_tape" ["_law_script"] (spTape K) := (ok_law_tape T).mono (by decide)
  have G_law_family : Good P w K mg base CX0 8 "_law_family" ["_law_tape_here", "_law_states", "_law_variants", "_law_low"] spFam := (ok_law_family T).mono (by decide)
  have G_law_draw : Good P w K mg base CX0 8 "_law_draw" ["_law_tape_here", "_law_menu"] spDraw := (ok_law_draw T).mono (by decide)
  have G_law_nexts : Good P w K mg base CX0 8 "_law_nexts" ["_law_family_here"] spNexts := (ok_law_nexts T).mono (by decide)
  have G_law_returns : Good P w K mg base CX0 8 "_law_returns" ["_law_nexts_here", "_law_state"] spReturns := (ok_law_returns T).mono (by decide)
  have G_law_found : Good P w K mg base CX0 8 "_law_found" ["_law_family_here"] spFound := (ok_law_found T hP).mono (by decide)
  have G_law_endless : Good P w K mg base CX0 8 "_law_endless" ["_law_family_here"] spEndless := (ok_law_endless T).mono (by decide)
  have G_law_integers : Good P w K mg base CX0 8 "_law_integers" ["_law_actual", "_law_size_here"] spInts := (ok_law_integers T).mono (by decide)
  have G_law_integer : Good P w K mg base CX0 8 "_law_integer" ["_law_actual"] spInt := (ok_law_integer T).mono (by decide)
  have G_law_product : Good P w K mg base CX0 8 "_law_product" ["_law_family_here", "_law_tree"] spIsProd := (ok_law_product T).mono (by decide)
  have G_is_product : Good P w K mg base CX0 8 "is_product" ["family", "tree"] spIsProd := (ok_is_product T).mono (by decide)
  have G_law_span : Good P w K mg base CX0 8 "_law_span" ["_law_family_here", "_law_tree", "_law_number"] spSpan := (ok_law_span T).mono (by decide)
  have G_law_priced : Good P w K mg base CX0 8 "_law_priced" ["_law_family_here", "_law_tree"] spPrice := (ok_law_priced T).mono (by decide)
  have G_price_of : Good P w K mg base CX0 8 "price_of" ["family", "tree"] spPrice := (ok_price_of T).mono (by decide)
  have G_law_repeated : Good P w K mg base CX0 8 "_law_repeated" ["_law_family_here", "_law_told", "_law_times"] spRepeated := (ok_law_repeated T hP).mono (by decide)
  have G_counts_by_size : Good P w K mg base CX0 8 "counts_by_size" ["family", "state", "most"] spCounts := (ok_counts_by_size T).mono (by decide)
  refine fd_of (i := 59) sc_law (fun vs H Q E h => ?_) (fun cdv A outer s0 H vs Q E hr h => ?_) fd F
  · obtain ⟨a, ns, rfl, _⟩ := h
    rfl
  · obtain ⟨a, ns, rfl, ha, hz, q⟩ := h
    refine ⟨_, (pss_cons (ps_set (i := 1) sc_law.nd rfl (.inl rfl) (pe_c G_law_tape hr (pa_cons (pv 0) pa_nil)))
(pss_cons (ps_set (i := 2) sc_law.nd rfl (.inl rfl) (pe_c G_law_family hr (pa_cons (pv 1) (pa_cons pe_int (pa_cons pe_int (pa_cons pe_int pa_nil))))))
(pss_cons (ps_set (i := 3) sc_law.nd rfl (.inl rfl) (pe_lst (pa_cons (pe_c G_law_draw hr (pa_cons (pv 1) (pa_cons pe_int pa_nil))) (pa_cons (pe_c G_law_draw hr (pa_cons (pv 1) (pa_cons pe_int pa_nil))) pa_nil))))
(pss_cons (ps_set (i := 4) sc_law.nd rfl (.inr rfl) (pe_c G_law_nexts hr (pa_cons (pv 2) pa_nil)))
(pss_cons (ps_set (i := 5) sc_law.nd rfl (.inl rfl) (pe_cmpR op_in_seq pe_bl (pe_lc (own := [("_law_state", 15)]) rfl sc_law.nd (pi_range1 (by rfl) T.m_range (pa_cons (pe_ix ix_tup (pv 2) pe_int (fun _ _ => rfl)) pa_nil)) (blkOk_by (own := [("_law_state", 15)]) (N := ["_law_script", "_law_tape_here", "_law_family_here", "_law_pair", "_law_nexts_here", "_law_due", "_law_told", "_law_tree", "_law_more", "_law_gain", "_law_found_here", "_law_times", "_law_other", "_law_size_here", "_law_price_here", "_law_state"]) (sc := defScope (top 59)) (by decide +kernel)) (fun _ _ _ _ _ => (pg_name (i := 15) sc_law.nd rfl (.inl rfl))) (fun _ _ _ _ _ => pts_nil) (fun _ _ _ _ _ => (pe_c G_law_returns hr (pa_cons (pv 4) (pa_cons (pv 15) pa_nil))))) (by rfl)))
(pss_cons (ps_set (i := 6) sc_law.nd rfl (.inl rfl) (pe_c G_law_found hr (pa_cons (pv 2) pa_nil)))
(pss_cons (ps_if (PW.pt (pw_or (pt_cmpR op_ne (pe_c G_law_endless hr (pa_cons (pv 2) pa_nil)) (pv 5) (nomark _)) (pw_or1 (pt_cmpR op_ne (pe_cmpR op_notN (pv 6) pe_non (nomark _)) (pv 5) (nomark _)))))
(pss_one (ps_ret pe_bl)) pss_nil)
(pss_cons (ps_if (PW.pt (pw_or (pt_cmpR op_isN (pv 6) pe_non (nomark _)) (pw_or1 (pt_cmpR (op_eqD hr.units) (pv 6) (pe_tup (pa_cons pe_str pa_nil)) (nomark _)))))
(pss_one (ps_ret pe_bl)) pss_nil)
(pss_cons (ps_if (PW.pt (pw_or (pt_not (pt_val (pe_callB call_isi (by rfl) T.m_isinstance (by decide +kernel) (pa_cons (pv 6) (pa_cons (pe_bltn (v := .ty "tuple") (by rfl) T.m_tuple (by decide +kernel) rfl) pa_nil))))) (pw_or (pt_cmpR op_ne (pe_callB call_len_seq (by rfl) T.m_len PySem.boot_len (pa_cons (pv 6) pa_nil)) pe_int (nomark _)) (pw_or (pt_not (pt_val (pe_c G_law_integers hr (pa_cons (pe_slice sl_tupA (pv 6) (po_some pe_int) po_none) (pa_cons pe_int pa_nil))))) (pw_or1 (pt_not (pt_val (pe_callB call_isi (by rfl) T.m_isinstance (by decide +kernel) (pa_cons (pe_ix ix_tup (pv 6) pe_int (fun _ _ => rfl)) (pa_cons (pe_bltn (v := .ty "tuple") (by rfl) T.m_tuple (by decide +kernel) rfl) pa_nil))))))))))
(pss_one (ps_ret pe_bl)) pss_nil)
(pss_cons (ps_set (i := 7) sc_law.nd rfl (.inl rfl) (pe_ix ix_tup (pv 6) pe_int (fun _ _ => rfl)))
(pss_cons (ps_if (PW.pt (pw_or (pt_not (pt_val (pe_c G_law_integers hr (pa_cons (pv 7) (pa_cons (pe_callB call_len_seq (by rfl) T.m_len PySem.boot_len (pa_cons (pv 7) pa_nil)) pa_nil))))) (pw_or (pt_not (pt_val (pe_c G_law_product hr (pa_cons (pv 2) (pa_cons (pv 7) pa_nil))))) (pw_or1 (pt_cmpR op_notBl (pe_c G_is_product hr (pa_cons (pv 2) (pa_cons (pv 7) pa_nil))) pe_bl (nomark _))))))
(pss_one (ps_ret pe_bl)) pss_nil)
(pss_cons (ps_set (i := 8) sc_law.nd rfl (.inl rfl) (pe_op op_sub (pe_c G_law_span hr (pa_cons (pv 2) (pa_cons (pv 7) (pa_cons (pe_ix ix_tup (pv 6) pe_int (fun _ _ => rfl)) pa_nil)))) (pe_c G_law_span hr (pa_cons (pv 2) (pa_cons (pv 7) (pa_cons (pe_ix ix_tup (pv 6) pe_int (fun _ _ => rfl)) pa_nil))))))
(pss_cons (ps_set (i := 9) sc_law.nd rfl (.inl rfl) (pe_op op_sub (pe_c G_law_priced hr (pa_cons (pv 2) (pa_cons (pe_slice sl_tupA (pv 7) (po_some (pe_ix ix_tup (pv 6) pe_int (fun _ _ => rfl))) po_none) pa_nil))) (pe_c G_law_priced hr (pa_cons (pv 2) (pa_cons (pe_slice sl_tupA (pv 7) (po_some (pe_op op_add (pe_ix ix_tup (pv 6) pe_int (fun _ _ => rfl)) (pe_c G_law_span hr (pa_cons (pv 2) (pa_cons (pv 7) (pa_cons (pe_ix ix_tup (pv 6) pe_int (fun _ _ => rfl)) pa_nil)))))) po_none) pa_nil)))))
(pss_cons (ps_set (i := 9) sc_law.nd rfl (.inl rfl) (pe_op op_sub (pv 9) (pe_c G_law_priced hr (pa_cons (pv 2) (pa_cons (pe_slice sl_tupA (pv 7) (po_some (pe_ix ix_tup (pv 6) pe_int (fun _ _ => rfl))) (po_some (pe_op op_add (pe_ix ix_tup (pv 6) pe_int (fun _ _ => rfl)) (pe_c G_law_span hr (pa_cons (pv 2) (pa_cons (pv 7) (pa_cons (pe_ix ix_tup (pv 6) pe_int (fun _ _ => rfl)) pa_nil))))))) pa_nil)))))
(pss_cons (ps_if (pt_not (pt_chain3 op_le op_lt op_lt pe_int (pe_ix ix_tup (pv 6) pe_int (fun _ _ => rfl)) (pe_ix ix_tup (pv 6) pe_int (fun _ _ => rfl)) (pe_op op_add (pe_ix ix_tup (pv 6) pe_int (fun _ _ => rfl)) (pe_c G_law_span hr (pa_cons (pv 2) (pa_cons (pv 7) (pa_cons (pe_ix ix_tup (pv 6) pe_int (fun _ _ => rfl)) pa_nil)))))))
(pss_one (ps_ret pe_bl)) pss_nil)
(pss_cons (ps_if (pt_cmpR op_ne (pe_ix ix_tup (pe_ix ix_tup (pe_ix ix_tup (pv 2) pe_int (fun _ _ => rfl)) (pe_ix ix_tup (pv 7) (pe_ix ix_tup (pv 6) pe_int (fun _ _ => rfl)) (fun _ _ => rfl)) (fun _ _ => rfl)) pe_int (fun _ _ => rfl)) (pe_ix ix_tup (pe_ix ix_tup (pe_ix ix_tup (pv 2) pe_int (fun _ _ => rfl)) (pe_ix ix_tup (pv 7) (pe_ix ix_tup (pv 6) pe_int (fun _ _ => rfl)) (fun _ _ => rfl)) (fun _ _ => rfl)) pe_int (fun _ _ => rfl)) (nomark _))
(pss_one (ps_ret pe_bl)) pss_nil)
(pss_cons (ps_set (i := 10) sc_law.nd rfl (.inl rfl) (pe_lst pa_nil))
(pss_cons (ps_for PassesOwn.never rfl (pi_list (pv 3)) (pg_name (i := 11) sc_law.nd rfl (.inl rfl))
(pss_cons (ps_set (i := 12) sc_law.nd rfl (.inl rfl) (pe_c G_law_repeated hr (pa_cons (pv 2) (pa_cons (pv 6) (pa_cons (pv 11) pa_nil)))))
(pss_cons (ps_set (i := 13) sc_law.nd rfl (.inl rfl) (pe_op op_add (pe_callB call_len_seq (by rfl) T.m_len PySem.boot_len (pa_cons (pv 7) pa_nil)) (pe_op op_mul (pe_op op_sub (pv 11) pe_int) (pv 8))))
(pss_cons (ps_if (pt_cmpR op_gt (pv 13) pe_int (nomark _))
(pss_cons (ps_if (pt_cmpR op_ne (pv 12) (pv 13) (nomark _))
(pss_one (ps_ret pe_bl)) pss_nil)
(pss_one (ps_continue))) pss_nil)
(pss_cons (ps_if (PW.pt (pw_or (pt_not (pt_val (pe_c G_law_integers hr (pa_cons (pv 12) (pa_cons (pv 13) pa_nil))))) (pw_or (pt_not (pt_val (pe_c G_law_product hr (pa_cons (pv 2) (pa_cons (pv 12) pa_nil))))) (pw_or1 (pt_cmpR op_notBl (pe_c G_is_product hr (pa_cons (pv 2) (pa_cons (pv 12) pa_nil))) pe_bl (nomark _))))))
(pss_one (ps_ret pe_bl)) pss_nil)
(pss_cons (ps_set (i := 14) sc_law.nd rfl (.inl rfl) (pe_c G_price_of hr (pa_cons (pv 2) (pa_cons (pv 12) pa_nil))))
(pss_cons (ps_if (PW.pt (pw_or (pt_not (pt_val (pe_c G_law_integer hr (pa_cons (pv 14) pa_nil)))) (pw_or1 (pt_cmpR op_ne (pv 14) (pe_op op_add (pe_c G_law_priced hr (pa_cons (pv 2) (pa_cons (pv 7) pa_nil))) (pe_op op_mul (pe_op op_sub (pv 11) pe_int) (pv 9))) (nomark _)))))
(pss_one (ps_ret pe_bl)) pss_nil)
(pss_cons (ps_if (PW.pt (pw_and (pt_cmpR op_le (pv 13) pe_int (nomark _)) (pw_and1 (pt_cmpR op_lt (pe_ix ix_tup (pe_c G_counts_by_size hr (pa_cons (pv 2) (pa_cons (pe_ix ix_tup (pe_ix ix_tup (pe_ix ix_tup (pv 2) pe_int (fun _ _ => rfl)) (pe_ix ix_tup (pv 12) pe_int (fun _ _ => rfl)) (fun _ _ => rfl)) pe_int (fun _ _ => rfl)) (pa_cons (pv 13) pa_nil)))) (pe_op op_sub (pv 13) pe_int) (fun _ _ => rfl)) pe_int (nomark _)))))
(pss_one (ps_ret pe_bl)) pss_nil)
(pss_one (ps_expr (pe_bm PySem.F.plainAttrs_list PySem.F.slot_list_append PySem.F.type_list_append mt_append (pv 10) (pa_cons (pv 12) pa_nil))))))))))))
(pss_one (ps_ret (pe_or (pe_cmpR op_lt (pe_callB call_len_seq (by rfl) T.m_len PySem.boot_len (pa_cons (pv 10) pa_nil)) pe_int (nomark _)) (pe_one (pe_cmpR op_eq (pe_cmpR (op_eqD hr.units) (pe_ix ix_list (pv 10) pe_int (fun _ _ => rfl)) (pe_ix ix_list (pv 10) pe_int (fun _ _ => rfl)) (nomark _)) (pe_cmpR op_eq (pe_ix ix_list (pv 3) pe_int (fun _ _ => rfl)) (pe_ix ix_list (pv 3) pe_int (fun _ _ => rfl)) (nomark _)) (nomark _)))))))))))))))))))))))), ?_⟩
    classical
    refine s_asgX (P := fun v H' => ∃ t l, v = .ref t ∧ TapeAt H' t l ∧ H t = none) (ex_callH (ea_cons (ev_var rfl) ea_nil) fun H1 e1 Q1 k1 E1 => ⟨a, ns, rfl, ex_l e1 ha, hz, fun t l H' e' h1 _ h3 => k1 _ H' e' ⟨t, l, rfl, h3, fresh_back e1 h1⟩⟩) fun v H1 e1 hv => ?_
    obtain ⟨t, l, rfl, hT1, nt⟩ := hv
    refine s_famX hT1 (fun _ => ev_var rfl) fun f L F H2 e2 hT2 hF2 => ?_
    refine s_pair (m := 6) (m2 := 21) hT2 (fun _ => ev_var rfl) (fun _ => ev_var rfl) (by decide) (by decide) (by decide) (by decide) fun k0 k1 pa H3 e3 hk0 hk1 hpa => ?_
    have hF3 := hF2.et hT2 e3
    have ok := hF3.ok
    have c4 := ok.c4
    -- from here on nothing of the tape is wanted
    refine s_asgX (P := fun v H' => ∃ p ps nss, v = .ref p ∧ LsAt H' p ps (rowsV nss) ∧ NextsOk F nss) (ex_call (ea_cons (ev_var rfl) ea_nil) fun H4 e4 Q1 k1 E1 => ⟨f, L, F, rfl, hF3.ex e4, fun p ps nss H' e' h1 h2 => k1 _ H' e' ⟨p, ps, nss, rfl, h1, h2⟩⟩) fun v H4 e4 hv => ?_
    obtain ⟨np, nps, nss, rfl, hls, hN⟩ := hv
    have hF4 := hF3.ex e4
    let due : Bool := decide (∃ s, Circ F s)
    have hdue : due = true ↔ ∃ s, Circ F s := decide_eq_true_iff
    have hdue2 : due = true ↔ ∃ r, r ∈ F.roots ∧ ¬ FinS F r := hdue.trans (circ_iff ok)
    have evdue : Ev (tOp (rIn K false) (tC (.bl true)) (tLc (iRng1 (tCons (tOp (rIxT K) (tVar 2) (tC (.int 0))) tNil)) (gName 15) tYes (tCall spReturns [] E0 (tCons (tVar 4) (tCons (tVar 15) tNil))) [15])) [some (.ref a), some (.ref t), some (.ref f), some (.ref pa), some (.ref np), none, none, none, none, none, none, none, none, none, none, none] H4 (.bl due) := by
      have z : EvL (tLc (iRng1 (tCons (tOp (rIxT K) (tVar 2) (tC (.int 0))) tNil)) (gName 15) tYes (tCall spReturns [] E0 (tCons (tVar 4) (tCons (tVar 15) tNil))) [15]) [some (.ref a), some (.ref t), some (.ref f), some (.ref pa), some (.ref np), none, none, none, none, none, none, none, none, none, none, none] H4 (((List.range F.cnt).filter fun _ => true).map fun s => V.bl (decide (Circ F s))) :=
        el_lcR (fun _ => true) (fun s => V.bl (decide (Circ F s))) (ea_cons (ev_f0 (ev_var rfl) hF4) ea_nil) (by omega) (fun _ _ _ _ => et_yes) (fun s hs _ H5 e5 H6 e6 Q1 k1 => (ea_cons (ev_var rfl) (ea_cons (ev_var rfl) ea_nil)) H6 e6 _ fun H7 e7 => ⟨np, nps, nss, F, s, rfl, hls.ex (e5.trans (e6.trans e7)), hN, ok, hs, fun H8 b e8 hb => by
          have : b = decide (Circ F s) := by rw [Bool.eq_iff_iff, hb, decide_eq_true_iff]
          rw [this]
          exact k1 H8 (e7.trans e8)⟩)
      rw [filter_true] at z
      have z2 : EvL (tLc (iRng1 (tCons (tOp (rIxT K) (tVar 2) (tC (.int 0))) tNil)) (gName 15) tYes (tCall spReturns [] E0 (tCons (tVar 4) (tCons (tVar 15) tNil))) [15]) [some (.ref a), some (.ref t), some (.ref f), some (.ref pa), some (.ref np), none, none, none, none, none, none, none, none, none, none, none] H4 (((List.range F.cnt).map fun s => decide (Circ F s)).map V.bl) := by
        rw [List.map_map]
        exact z
      refine ev_opL ev_c z2 fun p H5 hp e5 => ?_
      have e : (if false then !inV (.bl true) (((List.range F.cnt).map fun s => decide (Circ F s)).map V.bl) else inV (.bl true) (((List.range F.cnt).map fun s => decide (Circ F s)).map V.bl)) = due := by
        show inV _ _ = due
        rw [inV_bl, Bool.eq_iff_iff, hdue, List.any_eq_true]
        constructor
        · rintro ⟨b, hb, hbt⟩
          obtain ⟨s, _, rfl⟩ := List.mem_map.mp hb
          exact ⟨s, of_decide_eq_true hbt⟩
        · rintro ⟨s, hs⟩
          exact ⟨_, List.mem_map_of_mem (List.mem_range.mpr (hs.lt ok).1), decide_eq_true hs⟩
      rw [← e]
      exact rv_inL (SqL.of hp) rfl (flat_bl _)
    refine s_asg evdue fun H5 e5 => ?_
    have hF5 := hF4.ex e5
    have hpa5 := e5 _ _ (e4 _ _ hpa)
    have hno : (∀ r, r ∈ F.roots → FinS F r) → due = false := fun hall => by
      cases z : due with
      | false => rfl
      | true =>
        obtain ⟨r, h1, h2⟩ := hdue2.mp z
        exact absurd (hall r h1) h2
    have hyes : (¬ ∀ r, r ∈ F.roots → FinS F r) → due = true := fun hnot => hdue2.mpr (Classical.byContradiction fun hn => hnot fun r hr => Classical.byContradiction fun z => hn ⟨r, hr, z⟩)
    refine s_asgX (P := fun v H' => (v = .non ∧ due = false) ∨ (∃ p, v = .ref p ∧ due = true ∧ H' p = some (.tup [.str "refused"])) ∨
        (∃ rp tp r s pre1 pre2 tt post2 post1, v = .ref rp ∧ due = true ∧ r ∈ F.roots ∧ Ctx F r s pre1 post1 ∧ RepAt F s pre1 pre2 tt post2 post1 ∧ H' tp = some (.tup ((pre1 ++ pre2 ++ tt ++ (post2 ++ post1)).map nV)) ∧ H' rp = some (.tup [.ref tp, nV pre1.length, nV (pre1.length + pre2.length)])))
      (ex_call (ea_cons (ev_var rfl) ea_nil) fun H6 e6 Q1 k1 E1 => ⟨f, L, F, rfl, hF5.ex e6, fun H' e' hall => k1 _ H' e' (.inl ⟨rfl, hno hall⟩), fun hnot => ⟨fun p H' e' hp => k1 _ H' e' (.inr (.inl ⟨p, rfl, hyes hnot, hp⟩)), fun H' rp tp r s pre1 pre2 tt post2 post1 e' h1 h2 h3 h4 h5 => k1 _ H' e' (.inr (.inr ⟨rp, tp, r, s, pre1, pre2, tt, post2, post1, rfl, hyes hnot, h1, h2, h3, h4, h5⟩))⟩⟩) fun v H6 e6 hv => ?_
    have hF6 := hF5.ex e6
    have hpa6 := e6 _ _ hpa5
    have hvd : (!decide (v = V.non)) = due := by
      rcases hv with ⟨rfl, h⟩ | ⟨p, rfl, h, _⟩ | ⟨rp, _, _, _, _, _, _, _, _, rfl, h, _⟩
      · rw [h, decide_eq_true rfl] <;> rfl
      · rw [h, decide_eq_false (fun z => by cases z)] <;> rfl
      · rw [h, decide_eq_false (fun z => by cases z)] <;> rfl
    refine s_if (b := !decide (V.bl due = V.bl due) || !decide (V.bl (!decide (v = V.non)) = V.bl due)) (et_or (et_test (ev_op (ev_endless (ev_var rfl) hF6 hdue2) (ev_var rfl) (rv_ne rfl))) fun _ => et_test (ev_op (ev_notN (ev_var rfl)) (ev_var rfl) (rv_ne rfl))) (fun z => ?_) (fun _ H7 e7 => ?_)
    · rw [hvd, decide_eq_true rfl] at z
      cases z
    rcases hv with ⟨rfl, hd0⟩ | ⟨p, rfl, hd1, hp⟩ | ⟨rp, tp, r, s, pre1, pre2, tt, post2, post1, rfl, hd1, hr0, hc1, hrep, htp, hrp⟩
    · exact s_ifT (et_orT (et_is (et_test (ev_isN (ev_var rfl))) (decide_eq_true rfl))) fun H8 e8 => s_ret ev_c fun H9 e9 => q H9
    · exact s_ifT (et_orF (et_is (et_test (ev_isN (ev_var rfl))) (decide_eq_false (fun z => by cases z))) (et_test (ev_refT (ev_var rfl) (e7 _ _ hp)))) fun H8 e8 => s_ret ev_c fun H9 e9 => q H9
    -- a repetition
    have fo2 : Fo F [s] (pre2 ++ tt ++ post2) := hrep.c2 tt hrep.fo
    have hlen := hrep.len
    have ap1 : pre1 ++ pre2 ++ tt ++ (post2 ++ post1) = pre1 ++ (pre2 ++ tt ++ post2) ++ post1 := by simp [List.append_assoc]
    have ap3 : pre1 ++ pre2 ++ tt ++ (post2 ++ post1) = pre1 ++ ((pre2 ++ tt ++ post2) ++ post1) := by simp [List.append_assoc]
    have ap4 : pre1 ++ pre2 ++ tt ++ (post2 ++ post1) = (pre1 ++ (pre2 ++ tt ++ post2)) ++ post1 := by simp [List.append_assoc]
    have foP : Fo F [r] (pre1 ++ pre2 ++ tt ++ (post2 ++ post1)) := by
      rw [ap1]
      exact hc1 _ fo2
    have hrl : r < F.cnt := ok.rl r hr0
    generalize hprod : pre1 ++ pre2 ++ tt ++ (post2 ++ post1) = prod at htp ap1 ap3 ap4 foP hlen
    have ap2 : prod = (pre1 ++ pre2) ++ tt ++ (post2 ++ post1) := hprod.symm
    have hpl : prod.length = pre1.length + pre2.length + tt.length + (post2.length + post1.length) := by
      rw [← hprod, List.length_append, List.length_append, List.length_append, List.length_append]
    have hz : prod.length ≤ 1000 := by omega
    have hvl := foP.valid
    have hvs : ∀ l : List Nat, (∀ n ∈ l, n ∈ prod) → ∀ n ∈ l, ∃ x, F.vs[n]? = some x ∧ x.price.isSome = true := fun l hl n hn => hvl n (hl n hn)
    have t0 : ∀ {σ : L2.St} {H' : Hp}, σ[6]? = some (some (.ref rp)) → Ex H6 H' → Ev (tOp (rIxT K) (tVar 6) (tC (.int 0))) σ H' (.ref tp) := fun hσ e => ev_ixT (i := 0) (ev_var hσ) ev_c (e _ _ hrp) rfl
    have t1 : ∀ {σ : L2.St} {H' : Hp}, σ[6]? = some (some (.ref rp)) → Ex H6 H' → Ev (tOp (rIxT K) (tVar 6) (tC (.int 1))) σ H' (nV pre1.length) := fun hσ e => ev_ixT (i := 1) (ev_var hσ) ev_c (e _ _ hrp) rfl
    have t2 : ∀ {σ : L2.St} {H' : Hp}, σ[6]? = some (some (.ref rp)) → Ex H6 H' → Ev (tOp (rIxT K) (tVar 6) (tC (.int 2))) σ H' (nV (pre1.length + pre2.length)) := fun hσ e => ev_ixT (i := 2) (ev_var hσ) ev_c (e _ _ hrp) rfl
    refine s_ifN (et_orF (et_is (et_test (ev_isN (ev_var rfl))) (decide_eq_false (fun z => by cases z))) (et_test (ev_refF (ev_var rfl) (e7 _ _ hrp) (e7 _ _ htp)))) fun H8 e8 => ?_
    have e68 := e7.trans e8
    refine s_ifN (et_orF (et_notF (et_B (ev_isi (t := .type "tuple") (ev_var rfl) ev_c (fun _ e => .base (.tup (e _ _ (e68 _ _ hrp)))) (by first | rfl | decide | with_unfolding_all rfl)))) (et_orF (et_neF (ev_lenT (et_of (ev_var rfl) (e68 _ _ hrp))) ev_c rfl)
      (et_orF (et_notF (et_B (ev_ints (ns := [(pre1.length : Int), ((pre1.length + pre2.length : Nat) : Int)]) (etu_is (et_slice (et_of (ev_var rfl) (e68 _ _ hrp)) (ep_some (n := 1) ev_c) ep_none) rfl) ev_c)))
        (et_notF (et_B (ev_isi (t := .type "tuple") (t0 rfl e68) ev_c (fun _ e => .base (.tup (e _ _ (e68 _ _ htp)))) (by first | rfl | decide | with_unfolding_all rfl))))))) fun H9 e9 => ?_
    have e69 := e68.trans e9
    refine s_asg (t0 rfl e69) fun H10 e10 => ?_
    have e610 := e69.trans e10
    have hF10 := hF6.ex e610
    have htp10 := e610 _ _ htp
    refine s_ifN (et_orF (et_notF (et_B (ev_intsN (et_of (ev_var rfl) htp10) (ev_lenN (et_of (ev_var rfl) htp10) rfl)))) (et_orF (et_notF (et_B (ev_prodT (ev_var rfl) (ev_var rfl) hF10 htp10 hz ⟨r, hr0, foP⟩))) (et_notTr (ev_prodT (ev_var rfl) (ev_var rfl) hF10 htp10 hz ⟨r, hr0, foP⟩)))) fun H11 e11 => ?_
    have e611 := e610.trans e11
    have hF11 := hF6.ex e611
    have htp11 := e611 _ _ htp
    have sp1 : ∀ {σ : L2.St} {H' : Hp}, σ[2]? = some (some (.ref f)) → σ[6]? = some (some (.ref rp)) → σ[7]? = some (some (.ref tp)) → Ex H6 H' → Ev (tCall spSpan [] E0 (tCons (tVar 2) (tCons (tVar 7) (tCons (tOp (rIxT K) (tVar 6) (tC (.int 1))) tNil)))) σ H' (nV (pre2 ++ tt ++ post2).length) := fun h2 h6 h7 e => ev_span (ev_var h2) (ev_var h7) (t1 h6 e) (hF6.ex e) (e _ _ htp) ap1 hz fo2
    have sp2 : ∀ {σ : L2.St} {H' : Hp}, σ[2]? = some (some (.ref f)) → σ[6]? = some (some (.ref rp)) → σ[7]? = some (some (.ref tp)) → Ex H6 H' → Ev (tCall spSpan [] E0 (tCons (tVar 2) (tCons (tVar 7) (tCons (tOp (rIxT K) (tVar 6) (tC (.int 2))) tNil)))) σ H' (nV tt.length) := fun h2 h6 h7 e => ev_span (a := pre1 ++ pre2) (ev_var h2) (ev_var h7) (ev_is (t2 h6 e) (by rw [List.length_append])) (hF6.ex e) (e _ _ htp) ap2 hz hrep.fo
    refine s_asg (ev_is (w := .int ((pre2.length : Int) + (post2.length : Int))) (ev_op (sp1 rfl rfl rfl e611) (sp2 rfl rfl rfl e611) rv_I0) (by
      show V.int _ = V.int _
      congr 1
      rw [List.length_append, List.length_append]
      omega)) fun H12 e12 => ?_
    have e612 := e611.trans e12
    have hF12 := hF6.ex e612
    have htp12 := e612 _ _ htp
    refine s_asg (ev_op (ev_priced (ns := (pre2 ++ tt ++ post2) ++ post1) (ev_var rfl) (etu_is (et_slice (et_of (ev_var rfl) htp12) (ep_some (t1 rfl e612)) ep_none) (by rw [ap3, cut_suf])) hF12 (by rw [ap3, List.length_append] at hz; omega) (hvs _ fun n hn => by rw [ap3]; exact List.mem_append_right _ hn))
      (ev_priced (ns := post1) (ev_var rfl) (etu_is (et_slice (et_of (ev_var rfl) htp12) (ep_some (n := (pre1 ++ (pre2 ++ tt ++ post2)).length) (ev_is (ev_op (t1 rfl e612) (sp1 rfl rfl rfl e612) rv_I0) (by
        show V.int _ = V.int _
        congr 1
        rw [List.length_append (as := pre1)]
        omega))) ep_none) (by rw [ap4, cut_suf])) hF12 (by rw [ap4, List.length_append] at hz; omega) (hvs _ fun n hn => by rw [ap4]; exact List.mem_append_right _ hn)) rv_I0) fun H13 e13 => ?_
    have e613 := e612.trans e13
    have hF13 := hF6.ex e613
    have htp13 := e613 _ _ htp
    refine s_asg (ev_is (w := .int (prS F pre2 + prS F post2)) (ev_op (ev_var rfl) (ev_priced (ns := tt) (ev_var rfl) (etu_is (et_slice (et_of (ev_var rfl) htp13) (ep_some (n := (pre1 ++ pre2).length) (ev_is (t2 rfl e613) (by rw [List.length_append]))) (ep_some (n := (pre1 ++ pre2).length + tt.length) (ev_is (ev_op (t2 rfl e613) (sp2 rfl rfl rfl e613) rv_I0) (by
      show V.int _ = V.int _
      congr 1
      rw [List.length_append]
      omega)))) (by rw [ap2, cut_seg])) hF13 (by omega) (hvs _ fun n hn => by rw [ap2]; exact List.mem_append_left _ (List.mem_append_right _ hn))) rv_I0) (by
      show V.int _ = V.int _
      congr 1
      rw [prS_app, prS_app, prS_app]
      omega)) fun H14 e14 => ?_
    have e614 := e613.trans e14
    have hne : 0 < pre2.length := List.length_pos_iff.mpr hrep.ne
    have htt := hrep.fo.pos
    refine s_ifN (et_notF (et_test (ev_chain3 ev_c (t1 rfl e614) (t2 rfl e614) (ev_op (t1 rfl e614) (sp1 rfl rfl rfl e614) rv_I0) (by omega) (by omega) (by rw [List.length_append, List.length_append]; omega)))) fun H15 e15 => ?_
    have e615 := e614.trans e15
    have hF15 := hF6.ex e615
    obtain ⟨n1, x1, hn1, hx1, hp1⟩ := fo2.head (a := pre1) (b := post1)
    obtain ⟨n2, x2, hn2, hx2, hp2⟩ := hrep.fo.head (a := pre1 ++ pre2) (b := post2 ++ post1)
    rw [← ap1] at hn1
    rw [← ap2, List.length_append] at hn2
    refine s_ifN (et_neF (ev_is (w := nV s) (ev_plug (ev_var rfl) hF15 (ev_ixT (ev_var rfl) (t1 rfl e615) (e615 _ _ htp) (get_map hn1)) hx1) (by rw [hp1])) (ev_is (w := nV s) (ev_plug (ev_var rfl) hF15 (ev_ixT (ev_var rfl) (t2 rfl e615) (e615 _ _ htp) (get_map hn2)) hx2) (by rw [hp2])) rfl) fun H16 e16 => ?_
    have e616 := e615.trans e16
    refine s_asgL (el_lst ea_nil (by show 0 ≤ 100000; decide)) fun fa H17 nfa e17 hfa => ?_
    have e617 := e616.trans e17
    have hpa16 : H16 pa = some (.lst [nV k0, nV k1]) := e616 _ _ hpa6
    let c : Nat → Bool := fun k => decide (repSize pre1 pre2 tt post2 post1 k ≤ 100)
    let oth : Nat → List Nat := othT pre1 pre2 tt post2 post1
    have holen : ∀ k, ((oth k).length : Int) = repSize pre1 pre2 tt post2 post1 k := oth_len pre1 pre2 tt post2 post1
    refine s_forLn (ev_var rfl) (SqL.of (e17 _ _ hpa16)) (LawInv fa H16 oth c [k0, k1] fun y1 y2 y3 y4 y5 => [some (.ref a), some (.ref t), some (.ref f), some (.ref pa), some (.ref np), some (.bl due), some (.ref rp), some (.ref tp), some (.int ((pre2.length : Int) + (post2.length : Int))), some (.int (prS F pre2 + prS F post2)), some (.ref fa), y1, y2, y3, y4, y5])
      (fun H18 e18 => ⟨[], _, _, _, _, _, rfl, e17.trans e18, e18 _ _ hfa, rfl, fun q hq => absurd hq List.not_mem_nil⟩)
      (fun i σ' H' _ hI => by obtain ⟨fs, y1, y2, y3, y4, y5, _, e, _⟩ := hI; exact SqL.of (e _ _ hpa16))
      (fun i x σ' H' hx hI => ?_) (fun σ' H' hI => ?_)
    · obtain ⟨k, hk, rfl⟩ : ∃ k, [k0, k1][i]? = some k ∧ x = nV k := map_get (c := nV) (l := [k0, k1]) hx
      have hk20 : k ≤ 20 := by
        have := get_mem hk
        rcases List.mem_cons.mp this with rfl | h
        · omega
        · rw [List.mem_singleton.mp h]
          omega
      have htake : [k0, k1].take (i + 1) = [k0, k1].take i ++ [k] := by
        rw [List.take_add_one, hk] <;> rfl
      obtain ⟨fs, y1, y2, y3, y4, y5, rfl, e, hfs, hsn, hall⟩ := hI
      have g0 := e616.trans e
      have hfk : fs.length ≤ 2 := by
        have h1 : fs.length = (([k0, k1].take i).filter c).length := by rw [← hsn, List.length_map]
        have h2 := List.length_filter_le c ([k0, k1].take i)
        have h3 : ([k0, k1].take i).length ≤ [k0, k1].length := List.length_take_le' _ _
        have h4 : [k0, k1].length = 2 := rfl
        omega
      refine s_asgX (P := fun v H' => (100 < repSize pre1 pre2 tt post2 post1 k ∧ v = .int (repSize pre1 pre2 tt post2 post1 k)) ∨ (repSize pre1 pre2 tt post2 post1 k ≤ 100 ∧ ∃ p, v = .ref p ∧ H' p = some (.tup ((oth k).map nV))))
        (ex_call (ea_cons (ev_var rfl) (ea_cons (ev_var rfl) (ea_cons (ev_var rfl) ea_nil))) fun H1 e1 Q1 q1 E1 => ⟨f, L, F, rp, tp, s, pre1, pre2, tt, post2, post1, k, rfl, hF6.ex (g0.trans e1), by rw [hprod]; exact (g0.trans e1) _ _ htp, (g0.trans e1) _ _ hrp, hrep, hk20, fun hn H2 e2 => q1 _ H2 e2 (.inl ⟨hn, rfl⟩), fun hn r H2 e2 hr => q1 _ H2 e2 (.inr ⟨hn, r, rfl, hr⟩)⟩) fun v H1 e1 hv => ?_
      have g1 := g0.trans e1
      have htp1 := g1 _ _ htp
      refine s_asg (ev_is (w := .int (repSize pre1 pre2 tt post2 post1 k)) (ev_op (ev_lenN (et_of (ev_var rfl) htp1) rfl) (ev_op (ev_op (ev_var rfl) ev_c rv_I0) (ev_var rfl) (rv_I (.inl ⟨by omega, by omega⟩))) rv_I0) (by
        show V.int _ = V.int _
        congr 1
        unfold repSize
        rw [hprod])) fun H2 e2 => ?_
      have g2 := g1.trans e2
      have htp2 := g2 _ _ htp
      rcases hv with ⟨hbig, rfl⟩ | ⟨hsm, p, rfl, hp⟩
      · refine s_ifT (et_is (et_test (ev_op (ev_var rfl) ev_c rv_I0)) (decide_eq_true hbig)) fun H3 e3 => ?_
        refine s_ifN (et_neF (ev_var rfl) (ev_var rfl) rfl) fun H4 e4 => ?_
        have e5 := ((e1.trans e2).trans e3).trans e4
        have : LawInv fa H16 oth c [k0, k1] (fun y1 y2 y3 y4 y5 => [some (.ref a), some (.ref t), some (.ref f), some (.ref pa), some (.ref np), some (.bl due), some (.ref rp), some (.ref tp), some (.int ((pre2.length : Int) + (post2.length : Int))), some (.int (prS F pre2 + prS F post2)), some (.ref fa), y1, y2, y3, y4, y5]) (i + 1) [some (.ref a), some (.ref t), some (.ref f), some (.ref pa), some (.ref np), some (.bl due), some (.ref rp), some (.ref tp), some (.int ((pre2.length : Int) + (post2.length : Int))), some (.int (prS F pre2 + prS F post2)), some (.ref fa), some (nV k), some (.int (repSize pre1 pre2 tt post2 post1 k)), some (.int (repSize pre1 pre2 tt post2 post1 k)), y4, y5] H4 := by
          refine ⟨fs, _, _, _, _, _, rfl, e.trans e5, e5 _ _ hfs, ?_, fun q hq => e5 _ _ (hall q hq)⟩
          have hcf : c k = false := decide_eq_false (by omega)
          rw [htake, List.filter_append, List.filter_cons, hcf, if_neg (fun z => nomatch z), List.filter_nil, List.append_nil]
          exact hsn
        exact this
      · have hok := holen k
        have hfoK : Fo F [r] (oth k) := oth_fo hc1 hrep k
        have hoz : (oth k).length ≤ 1000 := by omega
        have hw : V.int (repSize pre1 pre2 tt post2 post1 k) = nV (oth k).length := congrArg V.int hok.symm
        refine s_ifN (et_is (et_test (ev_op (ev_var rfl) ev_c rv_I0)) (decide_eq_false (by omega))) fun H3 e3 => ?_
        have g3 := g2.trans e3
        have hp3 := e3 _ _ (e2 _ _ hp)
        have hF3' := hF6.ex g3
        refine s_ifN (et_orF (et_notF (et_B (ev_intsN (et_of (ev_var rfl) hp3) (ev_is (ev_var rfl) hw)))) (et_orF (et_notF (et_B (ev_prodT (ev_var rfl) (ev_var rfl) hF3' hp3 hoz ⟨r, hr0, hfoK⟩))) (et_notTr (ev_prodT (ev_var rfl) (ev_var rfl) hF3' hp3 hoz ⟨r, hr0, hfoK⟩)))) fun H4 e4 => ?_
        have g4 := g3.trans e4
        have hp4 := e4 _ _ hp3
        refine s_asg (ev_priced (ns := oth k) (ev_var rfl) (et_of (ev_var rfl) hp4) (hF6.ex g4) hoz hfoK.valid) fun H5 e5 => ?_
        have g5 := g4.trans e5
        refine s_ifN (et_orF (et_notF (et_B (ev_intT (ev_var rfl)))) (et_neF (ev_var rfl) (ev_is (w := .int (prS F (oth k))) (ev_op (ev_priced (ns := prod) (ev_var rfl) (et_of (ev_var rfl) (g5 _ _ htp)) (hF6.ex g5) hz hvl) (ev_op (ev_op (ev_var rfl) ev_c rv_I0) (ev_var rfl) (rv_I (.inl ⟨by omega, by omega⟩))) rv_I0) (by
          have := oth_pr F pre1 pre2 tt post2 post1 k
          rw [hprod] at this
          exact (congrArg V.int this).symm)) rfl)) fun H6' e6' => ?_
        have g6 := g5.trans e6'
        have hp6 := e6' _ _ (e5 _ _ hp4)
        obtain ⟨n3, ns3, x3, hns, hx3, _, hp3', _⟩ := hfoK.inv'
        have hn3 : (oth k)[0]? = some n3 := by rw [hns] <;> rfl
        have hpos := hfoK.pos
        refine s_ifN (et_is (et_and (a := decide (repSize pre1 pre2 tt post2 post1 k ≤ 20)) (b := false) (et_test (ev_op (ev_var rfl) ev_c rv_I0)) fun z => et_cnt (ns := oth k) (M := (oth k).length) (r := r) (ev_var rfl) (ev_is (ev_plug (ev_var rfl) (hF6.ex g6) (ev_ixT (i := 0) (ev_var rfl) ev_c hp6 (get_map hn3)) hx3) (by rw [hp3'])) (fun _ => ev_is (ev_var rfl) hw) (hF6.ex g6) hrl (by have := of_decide_eq_true z; omega) hpos hfoK rfl) (Bool.and_false _)) fun H7' e7' => ?_
        have e9 := (((((e1.trans e2).trans e3).trans e4).trans e5).trans e6').trans e7'
        have hfa7 := e9 _ _ hfs
        refine s_appE hfa7 (ev_var rfl) (ev_var rfl) (by rw [List.length_map]; omega) fun H8' e8' => ?_
        have e10' := e9.trans e8'
        have hfa8 := e10' _ _ hfs
        have : LawInv fa H16 oth c [k0, k1] (fun y1 y2 y3 y4 y5 => [some (.ref a), some (.ref t), some (.ref f), some (.ref pa), some (.ref np), some (.bl due), some (.ref rp), some (.ref tp), some (.int ((pre2.length : Int) + (post2.length : Int))), some (.int (prS F pre2 + prS F post2)), some (.ref fa), y1, y2, y3, y4, y5]) (i + 1) [some (.ref a), some (.ref t), some (.ref f), some (.ref pa), some (.ref np), some (.bl due), some (.ref rp), some (.ref tp), some (.int ((pre2.length : Int) + (post2.length : Int))), some (.int (prS F pre2 + prS F post2)), some (.ref fa), some (nV k), some (.ref p), some (.int (repSize pre1 pre2 tt post2 post1 k)), some (.int (prS F (oth k))), y5] (upd H8' fa (.lst ((fs.map fun q => V.ref q.1) ++ [V.ref p]))) := by
          refine ⟨fs ++ [(p, k)], _, _, _, _, _, rfl, (e.trans e10').mut nfa, by rw [upd_same, List.map_append] <;> rfl, ?_, fun q hq => ?_⟩
          · have hcf : c k = true := decide_eq_true (by omega)
            rw [htake, List.filter_append, List.filter_cons, hcf, if_pos rfl, List.filter_nil, List.map_append, hsn] <;> rfl
          · rcases List.mem_append.mp hq with hq | hq
            · exact upd_keep hfa8 (e10' _ _ (hall q hq))
            · rw [List.mem_singleton.mp hq]
              exact upd_keep hfa8 (e8' _ _ (e7' _ _ hp6))
        exact this
    · obtain ⟨fs, y1, y2, y3, y4, y5, rfl, e, hfs, hsn, hall⟩ := hI
      have hsn2 : fs.map (fun q => q.2) = [k0, k1].filter c := hsn
      have hpaE := e _ _ hpa16
      dsimp only
      refine s_ret (v := .bl true) ?_ fun H18 e18 => q H18
      by_cases h2 : fs.length < 2
      · exact ev_orV (a := true) (b := true) (ev_is (ev_op (ev_lenL (ev_var rfl) hfs) ev_c rv_I0) (by
          show V.bl _ = V.bl true
          congr 1
          apply decide_eq_true
          rw [List.length_map]
          omega)) (fun z => nomatch z)
      · have hf2 : ([k0, k1].filter c) = [k0, k1] := by
          have h1 : fs.length = ([k0, k1].filter c).length := by rw [← hsn2, List.length_map]
          cases z0 : c k0 with
          | false =>
            have h3 : ([k0, k1].filter c).length ≤ 1 := by
              rw [List.filter_cons, z0, if_neg (fun z => nomatch z)]
              exact List.length_filter_le c [k1]
            omega
          | true =>
            cases z1 : c k1 with
            | false =>
              have h3 : ([k0, k1].filter c).length ≤ 1 := by
                rw [List.filter_cons, z0, if_pos rfl, List.filter_cons, z1, if_neg (fun z => nomatch z)]
                exact Nat.le_refl 1
              omega
            | true => rw [List.filter_cons, z0, if_pos rfl, List.filter_cons, z1, if_pos rfl] <;> rfl
        rw [hf2] at hsn2
        obtain ⟨q0, fs, rfl⟩ : ∃ q0 r, fs = q0 :: r := by
          cases fs with
          | nil => cases hsn2
          | cons q0 r => exact ⟨q0, r, rfl⟩
        obtain ⟨q1, fs, rfl⟩ : ∃ q0 r, fs = q0 :: r := by
          cases fs with
          | nil => cases hsn2
          | cons q0 r => exact ⟨q0, r, rfl⟩
        have e0 : q0.2 = k0 := (List.cons.inj hsn2).1
        have e1 : q1.2 = k1 := (List.cons.inj (List.cons.inj hsn2).2).1
        have a0 : H' q0.1 = some (.tup ((oth k0).map nV)) := by rw [← e0]; exact hall q0 (List.mem_cons_self ..)
        have a1 : H' q1.1 = some (.tup ((oth k1).map nV)) := by rw [← e1]; exact hall q1 (List.mem_cons_of_mem _ (List.mem_cons_self ..))
        refine ev_is (ev_orV (a := false) (b := true) (ev_is (ev_op (ev_lenL (ev_var rfl) hfs) ev_c rv_I0) (by
          exact congrArg V.bl (decide_eq_false (by rw [List.length_map]; omega)))) fun _ => ?_) rfl
        refine ev_is (ev_op (ev_eqTup (ev_ixL (i := 0) (ev_var rfl) ev_c hfs rfl) (ev_ixL (i := 1) (ev_var rfl) ev_c hfs rfl) a0 a1) (ev_op (ev_ixL (i := 0) (ev_var rfl) ev_c hpaE rfl) (ev_ixL (i := 1) (ev_var rfl) ev_c hpaE rfl) (rv_eq rfl)) (rv_eq rfl)) ?_
        have hq : decide (oth k0 = oth k1) = decide (nV k0 = nV k1) := by
          rw [Bool.eq_iff_iff, decide_eq_true_iff, decide_eq_true_iff, nV_inj]
          exact oth_inj hrep.ne k0 k1
        exact congrArg V.bl (decide_eq_true (congrArg V.bl hq))
end
end S
end

section
set_option Elab.async false
set_option linter.all false
set_option maxRecDepth 100000
set_option maxHeartbeats 4000000
namespace S
open PySem PySem.Spec PyProof.Rows L2
theorem txt_of {K : PySem.W.Frag} {h : Heap} {mg : Str → Option Value} (X : K.In h) (G : h.Ns mainGlobals mg) (c : SaysS fa fn K) : Txt K mg := by
  have fr : ∀ {x : Str} (i : Nat), fa[i]? = some (.free x) → mg x = none := fun i hi => He.free_ok X G (He.SaysD.fact c.d i hi)
  have fe : ∀ {f : He.Fa}, f ∈ fa → f.ok K = true := fun hi => He.SaysD.facts c.d hi
  obtain ⟨z1, z2⟩ := ptB_ok c.pt c.ft
  exact {
    says := c.d
    glo := fun x hx => He.glo_ok X G (fe hx)
    m_all := fr 47 rfl
    m_any := fr 48 rfl
    m_abs := fr 46 rfl
    m_bool := fr 49 rfl
    m_enumerate := fr 50 rfl
    m_int := fr 51 rfl
    m_isinstance := fr 52 rfl
    m_len := fr 53 rfl
    m_list := fr 54 rfl
    m_max := fr 55 rfl
    m_min := fr 56 rfl
    m_range := fr 57 rfl
    m_reversed := fr 58 rfl
    m_sorted := fr 59 rfl
    m_sum := fr 60 rfl
    m_tuple := fr 61 rfl
    m_super := fr 62 rfl
    pt := z1
    xf := z2
    tt := He.exc_ok (He.SaysD.fact c.d 68 rfl)
    ett := He.exm_ok (He.SaysD.fact c.d 70 rfl)
    etp := He.exm_ok (He.SaysD.fact c.d 71 rfl)
    m_MOST_TREES := He.int_ok X G (He.SaysD.fact c.d 64 rfl)
    m_MOST_PARTS := He.int_ok X G (He.SaysD.fact c.d 65 rfl) }
end S
end

section
set_option Elab.async false
set_option linter.all false
set_option maxRecDepth 100000
set_option maxHeartbeats 0
namespace S
open PySem PySem.Spec PyProof.Rows L2
theorem prg_ok : PrgOk (PySem.Challenge.rw_slotwise_k60_whole_infinitely_many_by_re).prog := by
  constructor
  · rfl
  · rfl
theorem facts {P : Program} {w : World} {K : PySem.W.Frag} {h : Heap} {mg : Str → Option Value} {f : Addr} (hP : PrgOk P) (X : K.In h) (G : h.Ns mainGlobals mg) (hfa : mg ("law" : Str) = some (.ref f)) (c : SaysS fa fn K) :
    ∃ fd : FuncData, (∀ (s : Shared) (v : Value), BindsTo s fd ⟨[v], []⟩ [("_law_script", v)]) ∧ ∀ base : Heap, K.In base → base.Ns mainGlobals mg → FnOk P w K mg base CX0 20 f fd ["_law_script"] (spLaw K) := by
  have T := txt_of X G c
  obtain ⟨⟨fd, F⟩, g⟩ := fun_of T 45 59 "law" [] rfl rfl
  have e : He.ga K "law" = f := by
    rw [g] at hfa
    injection hfa with hfa
    injection hfa
  rw [← e]
  exact ⟨fd, fun s v => F.bindsA (ps := ["_law_script"]) (fun _ _ _ _ _ _ us hl => match us, hl with | [_], _ => rfl) s [v] rfl, fun base _ _ => (ok_law T hP fd F).mono (by decide)⟩
end S
open PySem PySem.W PySem.Calls PyProof.Rows
theorem PySem.Challenge.cw_slotwise_k60_whole_infinitely_many_by_re_holds : PySem.Challenge.rw_slotwise_k60_whole_infinitely_many_by_re.Holds := by
  w_on; o_law
  refine HandSHeadRun.head_any (r := S.R) (q := view S.R.prog [59]) (H := S.hk) (ob := S.ob) (M := 4000) (loose := S.loose) (d := HandSHeadRun.topDef S.R.prog 59) (kwd := []) S.ob_eq
    (by kernel_rfl) (fun s => by kernel_rfl) S.run (by kernel_rfl) (by kernel_rfl) (by kernel_rfl) (by rfl) (by first | assumption | decide +kernel) (by decide +kernel) ⟨rfl, rfl, rfl, rfl, rfl, by decide +kernel⟩ ?hw ?hc
  case hw => w_witness2
  case hc =>
    refine L2.walk_ofE (l := PySem.Challenge.rw_slotwise_k60_whole_infinitely_many_by_re) (n := 63) (k := 20) (x := "_law_script") (CX := L2.CX0) rfl (by decide) (by kernel_rfl) ⟨rfl, by decide, by decide⟩ ?F (fun _ _ _ _ z => z)
    intro w mg fa h Y G hmg0
    obtain ⟨K, KX, c⟩ := Y
    have hmg : mg ("law" : PySem.Str) = some (.ref fa) := by
      have e : (HandSHeadRun.topDef S.R.prog 59).name = ("law" : PySem.Str) := by kernel_rfl
      rw [← e]
      exact hmg0
    obtain ⟨fd, hb, hF⟩ := S.facts (P := (PySem.Challenge.rw_slotwise_k60_whole_infinitely_many_by_re).prog) (w := w) S.prg_ok KX G hmg c
    exact ⟨K, fd, S.spLaw K, KX, hb, fun H a ns hl _ hS => ⟨a, ns, rfl, hS, hl, fun _ => rfl⟩, hF⟩
end
